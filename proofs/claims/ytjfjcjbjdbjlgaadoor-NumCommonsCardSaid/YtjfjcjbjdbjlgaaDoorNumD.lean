/-
  The examples of package num.
-/
import Derived.Test.YtjfjcjbjdbjlgaaDoorRefNum
namespace Go.Proofs.YtjfjcjbjdbjlgaaDoor
open Go.RowKit
set_option linter.unusedVariables false
set_option linter.unusedSimpArgs false

set_option maxRecDepth 100000 in
set_option maxHeartbeats 4000000 in
theorem works_w (w0 : World) (hT : Tab w0) :
    Calls Tryd.prog 18 #[] w0 (Ret w0 (.bool true)) := by
  refine enterK 213 Tryd.func18 rfl rfl rfl ?_
  intro a hF Q0 hR0 hN0
  have hM := Mem.start w0
  refine wp_seq_k fun K1 hK1 => ?_
  refine wp_region_lit ?_
  refine sB 1 [(0, .bool false)] hF (by kernel_rfl) fun a hF => ?_
  refine wpList_nil ?_
  refine hK1 _ _ ?_
  refine wp_seq_k fun K2 hK2 => ?_
  refine wp_region_lit ?_
  refine wl (eM 41 (v := .tuple #[.int .i64 5, .bool true]) hF hM (by kernel_rfl) (Yld.to (yld_call (f := 26) (args := #[.int .i64 2, .int .i64 3]) hF (by kernel_rfl) (fun _ => by kernel_rfl) (fun w hM => nAdd_w 2 3 w)) (by kernel_rfl)) fun a w hF hM => ?_)
  refine sB 5 [(40, .tuple #[.int .i64 5, .bool true]), (42, .int .i64 5), (43, .bool true), (1, .int .i64 5), (2, .bool true)] hF (by kernel_rfl) fun a hF => ?_
  refine wpList_nil ?_
  refine hK2 _ _ ?_
  refine wp_seq_k fun K3 hK3 => ?_
  refine wp_region_lit ?_
  refine wl (eM 45 (v := .tuple #[.int .i64 0, .bool false]) hF hM (by kernel_rfl) (Yld.to (yld_call (f := 26) (args := #[.int .i64 1125899906842624, .int .i64 1]) hF (by kernel_rfl) (fun _ => by kernel_rfl) (fun w hM => nAdd_w 1125899906842624 1 w)) (by kernel_rfl)) fun a w hF hM => ?_)
  refine sB 5 [(44, .tuple #[.int .i64 0, .bool false]), (46, .int .i64 0), (47, .bool false), (3, .int .i64 0), (4, .bool false)] hF (by kernel_rfl) fun a hF => ?_
  refine wpList_nil ?_
  refine hK3 _ _ ?_
  refine wp_seq_k fun K4 hK4 => ?_
  refine wp_region_lit ?_
  refine wl (eM 49 (v := .tuple #[.int .i64 0, .bool false]) hF hM (by kernel_rfl) (Yld.to (yld_call (f := 26) (args := #[.int .i64 1125899906842625, .int .i64 (-5)]) hF (by kernel_rfl) (fun _ => by kernel_rfl) (fun w hM => nAdd_w 1125899906842625 (-5) w)) (by kernel_rfl)) fun a w hF hM => ?_)
  refine sB 5 [(48, .tuple #[.int .i64 0, .bool false]), (50, .int .i64 0), (51, .bool false), (5, .int .i64 0), (6, .bool false)] hF (by kernel_rfl) fun a hF => ?_
  refine wpList_nil ?_
  refine hK4 _ _ ?_
  refine wp_seq_k fun K5 hK5 => ?_
  refine wp_region_lit ?_
  refine wl (eM 53 (v := .tuple #[.int .i64 (-20), .bool true]) hF hM (by kernel_rfl) (Yld.to (yld_call (f := 30) (args := #[.int .i64 (-4), .int .i64 5]) hF (by kernel_rfl) (fun _ => by kernel_rfl) (fun w hM => nMul_w (-4) 5 w)) (by kernel_rfl)) fun a w hF hM => ?_)
  refine sB 5 [(52, .tuple #[.int .i64 (-20), .bool true]), (54, .int .i64 (-20)), (55, .bool true), (7, .int .i64 (-20)), (8, .bool true)] hF (by kernel_rfl) fun a hF => ?_
  refine wpList_nil ?_
  refine hK5 _ _ ?_
  refine wp_seq_k fun K6 hK6 => ?_
  refine wp_region_lit ?_
  refine wl (eM 57 (v := .tuple #[.int .i64 1125899906842624, .bool true]) hF hM (by kernel_rfl) (Yld.to (yld_call (f := 30) (args := #[.int .i64 67108864, .int .i64 16777216]) hF (by kernel_rfl) (fun _ => by kernel_rfl) (fun w hM => nMul_w 67108864 16777216 w)) (by kernel_rfl)) fun a w hF hM => ?_)
  refine sB 5 [(56, .tuple #[.int .i64 1125899906842624, .bool true]), (58, .int .i64 1125899906842624), (59, .bool true), (9, .int .i64 1125899906842624), (10, .bool true)] hF (by kernel_rfl) fun a hF => ?_
  refine wpList_nil ?_
  refine hK6 _ _ ?_
  refine wp_seq_k fun K7 hK7 => ?_
  refine wp_region_lit ?_
  refine wl (eM 61 (v := .tuple #[.int .i64 0, .bool false]) hF hM (by kernel_rfl) (Yld.to (yld_call (f := 30) (args := #[.int .i64 67108864, .int .i64 33554432]) hF (by kernel_rfl) (fun _ => by kernel_rfl) (fun w hM => nMul_w 67108864 33554432 w)) (by kernel_rfl)) fun a w hF hM => ?_)
  refine sB 5 [(60, .tuple #[.int .i64 0, .bool false]), (62, .int .i64 0), (63, .bool false), (11, .int .i64 0), (12, .bool false)] hF (by kernel_rfl) fun a hF => ?_
  refine wpList_nil ?_
  refine hK7 _ _ ?_
  refine wp_seq_k fun K8 hK8 => ?_
  refine wp_region_lit ?_
  refine sB 2 [(64, .int .i64 5), (65, .bool true)] hF (by kernel_rfl) fun a hF => ?_
  refine wl (sC (f := 25) (args := #[.int .i64 5, .bool true, .int .i64 5]) hF (by kernel_rfl) rfl (by decide) (by kernel_rfl) (fun _ => by kernel_rfl) ?_)
  refine enterK 13 Tryd.func25 rfl rfl rfl ?_
  intro a1 hF1 QR9 hR9 hNR9
  refine wp_seq_k fun K10 hK10 => ?_
  refine wp_region_lit ?_
  refine sB 1 [(6, .bool false)] hF1 (by kernel_rfl) fun a1 hF1 => ?_
  refine wpList_nil ?_
  refine hK10 _ _ ?_
  refine wp_seq_k fun K11 hK11 => ?_
  refine wp_region_lit ?_
  refine sB 2 [(7, .int .i64 5), (8, .int .i64 5)] hF1 (by kernel_rfl) fun a1 hF1 => ?_
  refine wl (eP 9 (v0 := .bool (decide (5 = 5))) (v := .bool true) hF1 (by kernel_rfl) (fun _ => by kernel_rfl) (bT (by omega)) fun a1 hF1 => ?_)
  refine sB 4 [(10, .bool true), (11, .bool true), (12, .bool true), (6, .bool true)] hF1 (by kernel_rfl) fun a1 hF1 => ?_
  refine wpList_nil ?_
  refine hK11 _ _ ?_
  refine wp_ret ?_
  refine hR9 _ _ ?_
  refine ret_of hF1 hM (.tmp rfl (.nil)) ⟨_, rfl, ?_⟩
  intro a hF
  refine sB 3 [(67, .bool true), (68, .int .i64 0), (69, .bool false)] hF (by kernel_rfl) fun a hF => ?_
  refine wl (sC (f := 32) (args := #[.int .i64 0, .bool false]) hF (by kernel_rfl) rfl (by decide) (by kernel_rfl) (fun _ => by kernel_rfl) ?_)
  refine enterK 11 Tryd.func32 rfl rfl rfl ?_
  intro a1 hF1 QR12 hR12 hNR12
  refine wp_seq_k fun K13 hK13 => ?_
  refine wp_region_lit ?_
  refine sB 1 [(4, .bool false)] hF1 (by kernel_rfl) fun a1 hF1 => ?_
  refine wpList_nil ?_
  refine hK13 _ _ ?_
  refine wp_seq_k fun K14 hK14 => ?_
  refine wp_region_lit ?_
  refine sB 1 [(5, .int .i64 0)] hF1 (by kernel_rfl) fun a1 hF1 => ?_
  refine wl (eP 6 (v0 := .bool (decide (0 = 0))) (v := .bool true) hF1 (by kernel_rfl) (fun _ => by kernel_rfl) (bT (by omega)) fun a1 hF1 => ?_)
  refine sB 5 [(7, .bool true), (8, .bool false), (9, .bool true), (10, .bool true), (4, .bool true)] hF1 (by kernel_rfl) fun a1 hF1 => ?_
  refine wpList_nil ?_
  refine hK14 _ _ ?_
  refine wp_ret ?_
  refine hR12 _ _ ?_
  refine ret_of hF1 hM (.tmp rfl (.nil)) ⟨_, rfl, ?_⟩
  intro a hF
  refine sB 4 [(71, .bool true), (72, .bool true), (73, .int .i64 0), (74, .bool false)] hF (by kernel_rfl) fun a hF => ?_
  refine wl (sC (f := 32) (args := #[.int .i64 0, .bool false]) hF (by kernel_rfl) rfl (by decide) (by kernel_rfl) (fun _ => by kernel_rfl) ?_)
  refine enterK 11 Tryd.func32 rfl rfl rfl ?_
  intro a1 hF1 QR15 hR15 hNR15
  refine wp_seq_k fun K16 hK16 => ?_
  refine wp_region_lit ?_
  refine sB 1 [(4, .bool false)] hF1 (by kernel_rfl) fun a1 hF1 => ?_
  refine wpList_nil ?_
  refine hK16 _ _ ?_
  refine wp_seq_k fun K17 hK17 => ?_
  refine wp_region_lit ?_
  refine sB 1 [(5, .int .i64 0)] hF1 (by kernel_rfl) fun a1 hF1 => ?_
  refine wl (eP 6 (v0 := .bool (decide (0 = 0))) (v := .bool true) hF1 (by kernel_rfl) (fun _ => by kernel_rfl) (bT (by omega)) fun a1 hF1 => ?_)
  refine sB 5 [(7, .bool true), (8, .bool false), (9, .bool true), (10, .bool true), (4, .bool true)] hF1 (by kernel_rfl) fun a1 hF1 => ?_
  refine wpList_nil ?_
  refine hK17 _ _ ?_
  refine wp_ret ?_
  refine hR15 _ _ ?_
  refine ret_of hF1 hM (.tmp rfl (.nil)) ⟨_, rfl, ?_⟩
  intro a hF
  refine sB 4 [(76, .bool true), (77, .bool true), (78, .int .i64 (-20)), (79, .bool true)] hF (by kernel_rfl) fun a hF => ?_
  refine wl (sC (f := 25) (args := #[.int .i64 (-20), .bool true, .int .i64 (-20)]) hF (by kernel_rfl) rfl (by decide) (by kernel_rfl) (fun _ => by kernel_rfl) ?_)
  refine enterK 13 Tryd.func25 rfl rfl rfl ?_
  intro a1 hF1 QR18 hR18 hNR18
  refine wp_seq_k fun K19 hK19 => ?_
  refine wp_region_lit ?_
  refine sB 1 [(6, .bool false)] hF1 (by kernel_rfl) fun a1 hF1 => ?_
  refine wpList_nil ?_
  refine hK19 _ _ ?_
  refine wp_seq_k fun K20 hK20 => ?_
  refine wp_region_lit ?_
  refine sB 2 [(7, .int .i64 (-20)), (8, .int .i64 (-20))] hF1 (by kernel_rfl) fun a1 hF1 => ?_
  refine wl (eP 9 (v0 := .bool (decide (-20 = -20))) (v := .bool true) hF1 (by kernel_rfl) (fun _ => by kernel_rfl) (bT (by omega)) fun a1 hF1 => ?_)
  refine sB 4 [(10, .bool true), (11, .bool true), (12, .bool true), (6, .bool true)] hF1 (by kernel_rfl) fun a1 hF1 => ?_
  refine wpList_nil ?_
  refine hK20 _ _ ?_
  refine wp_ret ?_
  refine hR18 _ _ ?_
  refine ret_of hF1 hM (.tmp rfl (.nil)) ⟨_, rfl, ?_⟩
  intro a hF
  refine sB 4 [(81, .bool true), (82, .bool true), (83, .int .i64 1125899906842624), (84, .bool true)] hF (by kernel_rfl) fun a hF => ?_
  refine wl (sC (f := 25) (args := #[.int .i64 1125899906842624, .bool true, .int .i64 1125899906842624]) hF (by kernel_rfl) rfl (by decide) (by kernel_rfl) (fun _ => by kernel_rfl) ?_)
  refine enterK 13 Tryd.func25 rfl rfl rfl ?_
  intro a1 hF1 QR21 hR21 hNR21
  refine wp_seq_k fun K22 hK22 => ?_
  refine wp_region_lit ?_
  refine sB 1 [(6, .bool false)] hF1 (by kernel_rfl) fun a1 hF1 => ?_
  refine wpList_nil ?_
  refine hK22 _ _ ?_
  refine wp_seq_k fun K23 hK23 => ?_
  refine wp_region_lit ?_
  refine sB 2 [(7, .int .i64 1125899906842624), (8, .int .i64 1125899906842624)] hF1 (by kernel_rfl) fun a1 hF1 => ?_
  refine wl (eP 9 (v0 := .bool (decide (1125899906842624 = 1125899906842624))) (v := .bool true) hF1 (by kernel_rfl) (fun _ => by kernel_rfl) (bT (by omega)) fun a1 hF1 => ?_)
  refine sB 4 [(10, .bool true), (11, .bool true), (12, .bool true), (6, .bool true)] hF1 (by kernel_rfl) fun a1 hF1 => ?_
  refine wpList_nil ?_
  refine hK23 _ _ ?_
  refine wp_ret ?_
  refine hR21 _ _ ?_
  refine ret_of hF1 hM (.tmp rfl (.nil)) ⟨_, rfl, ?_⟩
  intro a hF
  refine sB 4 [(86, .bool true), (87, .bool true), (88, .int .i64 0), (89, .bool false)] hF (by kernel_rfl) fun a hF => ?_
  refine wl (sC (f := 32) (args := #[.int .i64 0, .bool false]) hF (by kernel_rfl) rfl (by decide) (by kernel_rfl) (fun _ => by kernel_rfl) ?_)
  refine enterK 11 Tryd.func32 rfl rfl rfl ?_
  intro a1 hF1 QR24 hR24 hNR24
  refine wp_seq_k fun K25 hK25 => ?_
  refine wp_region_lit ?_
  refine sB 1 [(4, .bool false)] hF1 (by kernel_rfl) fun a1 hF1 => ?_
  refine wpList_nil ?_
  refine hK25 _ _ ?_
  refine wp_seq_k fun K26 hK26 => ?_
  refine wp_region_lit ?_
  refine sB 1 [(5, .int .i64 0)] hF1 (by kernel_rfl) fun a1 hF1 => ?_
  refine wl (eP 6 (v0 := .bool (decide (0 = 0))) (v := .bool true) hF1 (by kernel_rfl) (fun _ => by kernel_rfl) (bT (by omega)) fun a1 hF1 => ?_)
  refine sB 5 [(7, .bool true), (8, .bool false), (9, .bool true), (10, .bool true), (4, .bool true)] hF1 (by kernel_rfl) fun a1 hF1 => ?_
  refine wpList_nil ?_
  refine hK26 _ _ ?_
  refine wp_ret ?_
  refine hR24 _ _ ?_
  refine ret_of hF1 hM (.tmp rfl (.nil)) ⟨_, rfl, ?_⟩
  intro a hF
  refine sB 2 [(91, .bool true), (13, .bool true)] hF (by kernel_rfl) fun a hF => ?_
  refine wpList_nil ?_
  refine hK8 _ _ ?_
  refine wp_seq_k fun K27 hK27 => ?_
  refine wp_region_lit ?_
  refine wl (eM 93 (v := .tuple #[.int .i64 (-4), .bool true]) hF hM (by kernel_rfl) (Yld.to (yld_call (f := 12) (args := #[.int .i64 (-7), .int .i64 2]) hF (by kernel_rfl) (fun _ => by kernel_rfl) (fun w hM => nFloor_w (-7) 2 w)) (by kernel_rfl)) fun a w hF hM => ?_)
  refine sB 5 [(92, .tuple #[.int .i64 (-4), .bool true]), (94, .int .i64 (-4)), (95, .bool true), (14, .int .i64 (-4)), (15, .bool true)] hF (by kernel_rfl) fun a hF => ?_
  refine wpList_nil ?_
  refine hK27 _ _ ?_
  refine wp_seq_k fun K28 hK28 => ?_
  refine wp_region_lit ?_
  refine wl (eM 97 (v := .tuple #[.int .i64 (-3), .bool true]) hF hM (by kernel_rfl) (Yld.to (yld_call (f := 14) (args := #[.int .i64 (-7), .int .i64 2]) hF (by kernel_rfl) (fun _ => by kernel_rfl) (fun w hM => nCeil_w (-7) 2 w)) (by kernel_rfl)) fun a w hF hM => ?_)
  refine sB 5 [(96, .tuple #[.int .i64 (-3), .bool true]), (98, .int .i64 (-3)), (99, .bool true), (16, .int .i64 (-3)), (17, .bool true)] hF (by kernel_rfl) fun a hF => ?_
  refine wpList_nil ?_
  refine hK28 _ _ ?_
  refine wp_seq_k fun K29 hK29 => ?_
  refine wp_region_lit ?_
  refine wl (eM 101 (v := .tuple #[.int .i64 1, .bool true]) hF hM (by kernel_rfl) (Yld.to (yld_call (f := 16) (args := #[.int .i64 (-7), .int .i64 2]) hF (by kernel_rfl) (fun _ => by kernel_rfl) (fun w hM => nMod_w (-7) 2 w)) (by kernel_rfl)) fun a w hF hM => ?_)
  refine sB 5 [(100, .tuple #[.int .i64 1, .bool true]), (102, .int .i64 1), (103, .bool true), (18, .int .i64 1), (19, .bool true)] hF (by kernel_rfl) fun a hF => ?_
  refine wpList_nil ?_
  refine hK29 _ _ ?_
  refine wp_seq_k fun K30 hK30 => ?_
  refine wp_region_lit ?_
  refine wl (eM 105 (v := .tuple #[.int .i64 0, .bool false]) hF hM (by kernel_rfl) (Yld.to (yld_call (f := 16) (args := #[.int .i64 7, .int .i64 0]) hF (by kernel_rfl) (fun _ => by kernel_rfl) (fun w hM => nMod_w 7 0 w)) (by kernel_rfl)) fun a w hF hM => ?_)
  refine sB 5 [(104, .tuple #[.int .i64 0, .bool false]), (106, .int .i64 0), (107, .bool false), (20, .int .i64 0), (21, .bool false)] hF (by kernel_rfl) fun a hF => ?_
  refine wpList_nil ?_
  refine hK30 _ _ ?_
  refine wp_seq_k fun K31 hK31 => ?_
  refine wp_region_lit ?_
  refine sB 2 [(108, .int .i64 (-4)), (109, .bool true)] hF (by kernel_rfl) fun a hF => ?_
  refine wl (sC (f := 25) (args := #[.int .i64 (-4), .bool true, .int .i64 (-4)]) hF (by kernel_rfl) rfl (by decide) (by kernel_rfl) (fun _ => by kernel_rfl) ?_)
  refine enterK 13 Tryd.func25 rfl rfl rfl ?_
  intro a1 hF1 QR32 hR32 hNR32
  refine wp_seq_k fun K33 hK33 => ?_
  refine wp_region_lit ?_
  refine sB 1 [(6, .bool false)] hF1 (by kernel_rfl) fun a1 hF1 => ?_
  refine wpList_nil ?_
  refine hK33 _ _ ?_
  refine wp_seq_k fun K34 hK34 => ?_
  refine wp_region_lit ?_
  refine sB 2 [(7, .int .i64 (-4)), (8, .int .i64 (-4))] hF1 (by kernel_rfl) fun a1 hF1 => ?_
  refine wl (eP 9 (v0 := .bool (decide (-4 = -4))) (v := .bool true) hF1 (by kernel_rfl) (fun _ => by kernel_rfl) (bT (by omega)) fun a1 hF1 => ?_)
  refine sB 4 [(10, .bool true), (11, .bool true), (12, .bool true), (6, .bool true)] hF1 (by kernel_rfl) fun a1 hF1 => ?_
  refine wpList_nil ?_
  refine hK34 _ _ ?_
  refine wp_ret ?_
  refine hR32 _ _ ?_
  refine ret_of hF1 hM (.tmp rfl (.nil)) ⟨_, rfl, ?_⟩
  intro a hF
  refine sB 3 [(111, .bool true), (112, .int .i64 (-3)), (113, .bool true)] hF (by kernel_rfl) fun a hF => ?_
  refine wl (sC (f := 25) (args := #[.int .i64 (-3), .bool true, .int .i64 (-3)]) hF (by kernel_rfl) rfl (by decide) (by kernel_rfl) (fun _ => by kernel_rfl) ?_)
  refine enterK 13 Tryd.func25 rfl rfl rfl ?_
  intro a1 hF1 QR35 hR35 hNR35
  refine wp_seq_k fun K36 hK36 => ?_
  refine wp_region_lit ?_
  refine sB 1 [(6, .bool false)] hF1 (by kernel_rfl) fun a1 hF1 => ?_
  refine wpList_nil ?_
  refine hK36 _ _ ?_
  refine wp_seq_k fun K37 hK37 => ?_
  refine wp_region_lit ?_
  refine sB 2 [(7, .int .i64 (-3)), (8, .int .i64 (-3))] hF1 (by kernel_rfl) fun a1 hF1 => ?_
  refine wl (eP 9 (v0 := .bool (decide (-3 = -3))) (v := .bool true) hF1 (by kernel_rfl) (fun _ => by kernel_rfl) (bT (by omega)) fun a1 hF1 => ?_)
  refine sB 4 [(10, .bool true), (11, .bool true), (12, .bool true), (6, .bool true)] hF1 (by kernel_rfl) fun a1 hF1 => ?_
  refine wpList_nil ?_
  refine hK37 _ _ ?_
  refine wp_ret ?_
  refine hR35 _ _ ?_
  refine ret_of hF1 hM (.tmp rfl (.nil)) ⟨_, rfl, ?_⟩
  intro a hF
  refine sB 4 [(115, .bool true), (116, .bool true), (117, .int .i64 1), (118, .bool true)] hF (by kernel_rfl) fun a hF => ?_
  refine wl (sC (f := 25) (args := #[.int .i64 1, .bool true, .int .i64 1]) hF (by kernel_rfl) rfl (by decide) (by kernel_rfl) (fun _ => by kernel_rfl) ?_)
  refine enterK 13 Tryd.func25 rfl rfl rfl ?_
  intro a1 hF1 QR38 hR38 hNR38
  refine wp_seq_k fun K39 hK39 => ?_
  refine wp_region_lit ?_
  refine sB 1 [(6, .bool false)] hF1 (by kernel_rfl) fun a1 hF1 => ?_
  refine wpList_nil ?_
  refine hK39 _ _ ?_
  refine wp_seq_k fun K40 hK40 => ?_
  refine wp_region_lit ?_
  refine sB 2 [(7, .int .i64 1), (8, .int .i64 1)] hF1 (by kernel_rfl) fun a1 hF1 => ?_
  refine wl (eP 9 (v0 := .bool (decide (1 = 1))) (v := .bool true) hF1 (by kernel_rfl) (fun _ => by kernel_rfl) (bT (by omega)) fun a1 hF1 => ?_)
  refine sB 4 [(10, .bool true), (11, .bool true), (12, .bool true), (6, .bool true)] hF1 (by kernel_rfl) fun a1 hF1 => ?_
  refine wpList_nil ?_
  refine hK40 _ _ ?_
  refine wp_ret ?_
  refine hR38 _ _ ?_
  refine ret_of hF1 hM (.tmp rfl (.nil)) ⟨_, rfl, ?_⟩
  intro a hF
  refine sB 4 [(120, .bool true), (121, .bool true), (122, .int .i64 0), (123, .bool false)] hF (by kernel_rfl) fun a hF => ?_
  refine wl (sC (f := 32) (args := #[.int .i64 0, .bool false]) hF (by kernel_rfl) rfl (by decide) (by kernel_rfl) (fun _ => by kernel_rfl) ?_)
  refine enterK 11 Tryd.func32 rfl rfl rfl ?_
  intro a1 hF1 QR41 hR41 hNR41
  refine wp_seq_k fun K42 hK42 => ?_
  refine wp_region_lit ?_
  refine sB 1 [(4, .bool false)] hF1 (by kernel_rfl) fun a1 hF1 => ?_
  refine wpList_nil ?_
  refine hK42 _ _ ?_
  refine wp_seq_k fun K43 hK43 => ?_
  refine wp_region_lit ?_
  refine sB 1 [(5, .int .i64 0)] hF1 (by kernel_rfl) fun a1 hF1 => ?_
  refine wl (eP 6 (v0 := .bool (decide (0 = 0))) (v := .bool true) hF1 (by kernel_rfl) (fun _ => by kernel_rfl) (bT (by omega)) fun a1 hF1 => ?_)
  refine sB 5 [(7, .bool true), (8, .bool false), (9, .bool true), (10, .bool true), (4, .bool true)] hF1 (by kernel_rfl) fun a1 hF1 => ?_
  refine wpList_nil ?_
  refine hK43 _ _ ?_
  refine wp_ret ?_
  refine hR41 _ _ ?_
  refine ret_of hF1 hM (.tmp rfl (.nil)) ⟨_, rfl, ?_⟩
  intro a hF
  refine sB 2 [(125, .bool true), (22, .bool true)] hF (by kernel_rfl) fun a hF => ?_
  refine wpList_nil ?_
  refine hK31 _ _ ?_
  refine wp_seq_k fun K44 hK44 => ?_
  refine wp_region_lit ?_
  refine wl (eM 127 (v := .tuple #[.int .i64 844424930131968, .bool true]) hF hM (by kernel_rfl) (Yld.to (yld_call (f := 19) (args := #[.int .i64 1125899906842624, .int .i64 3, .int .i64 4]) hF (by kernel_rfl) (fun _ => by kernel_rfl) (fun w hM => mulDiv_w 1125899906842624 3 4 w)) (by kernel_rfl)) fun a w hF hM => ?_)
  refine sB 5 [(126, .tuple #[.int .i64 844424930131968, .bool true]), (128, .int .i64 844424930131968), (129, .bool true), (23, .int .i64 844424930131968), (24, .bool true)] hF (by kernel_rfl) fun a hF => ?_
  refine wpList_nil ?_
  refine hK44 _ _ ?_
  refine wp_seq_k fun K45 hK45 => ?_
  refine wp_region_lit ?_
  refine wl (eM 131 (v := .tuple #[.int .i64 (-11), .bool true]) hF hM (by kernel_rfl) (Yld.to (yld_call (f := 19) (args := #[.int .i64 (-7), .int .i64 3, .int .i64 2]) hF (by kernel_rfl) (fun _ => by kernel_rfl) (fun w hM => mulDiv_w (-7) 3 2 w)) (by kernel_rfl)) fun a w hF hM => ?_)
  refine sB 5 [(130, .tuple #[.int .i64 (-11), .bool true]), (132, .int .i64 (-11)), (133, .bool true), (25, .int .i64 (-11)), (26, .bool true)] hF (by kernel_rfl) fun a hF => ?_
  refine wpList_nil ?_
  refine hK45 _ _ ?_
  refine wp_seq_k fun K46 hK46 => ?_
  refine wp_region_lit ?_
  refine wl (eM 135 (v := .tuple #[.int .i64 1125899906842624, .bool true]) hF hM (by kernel_rfl) (Yld.to (yld_call (f := 19) (args := #[.int .i64 1125899906842624, .int .i64 1125899906842624, .int .i64 1125899906842624]) hF (by kernel_rfl) (fun _ => by kernel_rfl) (fun w hM => mulDiv_w 1125899906842624 1125899906842624 1125899906842624 w)) (by kernel_rfl)) fun a w hF hM => ?_)
  refine sB 5 [(134, .tuple #[.int .i64 1125899906842624, .bool true]), (136, .int .i64 1125899906842624), (137, .bool true), (27, .int .i64 1125899906842624), (28, .bool true)] hF (by kernel_rfl) fun a hF => ?_
  refine wpList_nil ?_
  refine hK46 _ _ ?_
  refine wp_seq_k fun K47 hK47 => ?_
  refine wp_region_lit ?_
  refine wl (eM 139 (v := .tuple #[.int .i64 0, .bool false]) hF hM (by kernel_rfl) (Yld.to (yld_call (f := 19) (args := #[.int .i64 1125899906842624, .int .i64 2, .int .i64 1]) hF (by kernel_rfl) (fun _ => by kernel_rfl) (fun w hM => mulDiv_w 1125899906842624 2 1 w)) (by kernel_rfl)) fun a w hF hM => ?_)
  refine sB 5 [(138, .tuple #[.int .i64 0, .bool false]), (140, .int .i64 0), (141, .bool false), (29, .int .i64 0), (30, .bool false)] hF (by kernel_rfl) fun a hF => ?_
  refine wpList_nil ?_
  refine hK47 _ _ ?_
  refine wp_seq_k fun K48 hK48 => ?_
  refine wp_region_lit ?_
  refine wl (eM 143 (v := .tuple #[.int .i64 0, .bool false]) hF hM (by kernel_rfl) (Yld.to (yld_call (f := 19) (args := #[.int .i64 1, .int .i64 1, .int .i64 0]) hF (by kernel_rfl) (fun _ => by kernel_rfl) (fun w hM => mulDiv_w 1 1 0 w)) (by kernel_rfl)) fun a w hF hM => ?_)
  refine sB 5 [(142, .tuple #[.int .i64 0, .bool false]), (144, .int .i64 0), (145, .bool false), (31, .int .i64 0), (32, .bool false)] hF (by kernel_rfl) fun a hF => ?_
  refine wpList_nil ?_
  refine hK48 _ _ ?_
  refine wp_seq_k fun K49 hK49 => ?_
  refine wp_region_lit ?_
  refine sB 2 [(146, .int .i64 844424930131968), (147, .bool true)] hF (by kernel_rfl) fun a hF => ?_
  refine wl (sC (f := 25) (args := #[.int .i64 844424930131968, .bool true, .int .i64 844424930131968]) hF (by kernel_rfl) rfl (by decide) (by kernel_rfl) (fun _ => by kernel_rfl) ?_)
  refine enterK 13 Tryd.func25 rfl rfl rfl ?_
  intro a1 hF1 QR50 hR50 hNR50
  refine wp_seq_k fun K51 hK51 => ?_
  refine wp_region_lit ?_
  refine sB 1 [(6, .bool false)] hF1 (by kernel_rfl) fun a1 hF1 => ?_
  refine wpList_nil ?_
  refine hK51 _ _ ?_
  refine wp_seq_k fun K52 hK52 => ?_
  refine wp_region_lit ?_
  refine sB 2 [(7, .int .i64 844424930131968), (8, .int .i64 844424930131968)] hF1 (by kernel_rfl) fun a1 hF1 => ?_
  refine wl (eP 9 (v0 := .bool (decide (844424930131968 = 844424930131968))) (v := .bool true) hF1 (by kernel_rfl) (fun _ => by kernel_rfl) (bT (by omega)) fun a1 hF1 => ?_)
  refine sB 4 [(10, .bool true), (11, .bool true), (12, .bool true), (6, .bool true)] hF1 (by kernel_rfl) fun a1 hF1 => ?_
  refine wpList_nil ?_
  refine hK52 _ _ ?_
  refine wp_ret ?_
  refine hR50 _ _ ?_
  refine ret_of hF1 hM (.tmp rfl (.nil)) ⟨_, rfl, ?_⟩
  intro a hF
  refine sB 3 [(149, .bool true), (150, .int .i64 (-11)), (151, .bool true)] hF (by kernel_rfl) fun a hF => ?_
  refine wl (sC (f := 25) (args := #[.int .i64 (-11), .bool true, .int .i64 (-11)]) hF (by kernel_rfl) rfl (by decide) (by kernel_rfl) (fun _ => by kernel_rfl) ?_)
  refine enterK 13 Tryd.func25 rfl rfl rfl ?_
  intro a1 hF1 QR53 hR53 hNR53
  refine wp_seq_k fun K54 hK54 => ?_
  refine wp_region_lit ?_
  refine sB 1 [(6, .bool false)] hF1 (by kernel_rfl) fun a1 hF1 => ?_
  refine wpList_nil ?_
  refine hK54 _ _ ?_
  refine wp_seq_k fun K55 hK55 => ?_
  refine wp_region_lit ?_
  refine sB 2 [(7, .int .i64 (-11)), (8, .int .i64 (-11))] hF1 (by kernel_rfl) fun a1 hF1 => ?_
  refine wl (eP 9 (v0 := .bool (decide (-11 = -11))) (v := .bool true) hF1 (by kernel_rfl) (fun _ => by kernel_rfl) (bT (by omega)) fun a1 hF1 => ?_)
  refine sB 4 [(10, .bool true), (11, .bool true), (12, .bool true), (6, .bool true)] hF1 (by kernel_rfl) fun a1 hF1 => ?_
  refine wpList_nil ?_
  refine hK55 _ _ ?_
  refine wp_ret ?_
  refine hR53 _ _ ?_
  refine ret_of hF1 hM (.tmp rfl (.nil)) ⟨_, rfl, ?_⟩
  intro a hF
  refine sB 4 [(153, .bool true), (154, .bool true), (155, .int .i64 1125899906842624), (156, .bool true)] hF (by kernel_rfl) fun a hF => ?_
  refine wl (sC (f := 25) (args := #[.int .i64 1125899906842624, .bool true, .int .i64 1125899906842624]) hF (by kernel_rfl) rfl (by decide) (by kernel_rfl) (fun _ => by kernel_rfl) ?_)
  refine enterK 13 Tryd.func25 rfl rfl rfl ?_
  intro a1 hF1 QR56 hR56 hNR56
  refine wp_seq_k fun K57 hK57 => ?_
  refine wp_region_lit ?_
  refine sB 1 [(6, .bool false)] hF1 (by kernel_rfl) fun a1 hF1 => ?_
  refine wpList_nil ?_
  refine hK57 _ _ ?_
  refine wp_seq_k fun K58 hK58 => ?_
  refine wp_region_lit ?_
  refine sB 2 [(7, .int .i64 1125899906842624), (8, .int .i64 1125899906842624)] hF1 (by kernel_rfl) fun a1 hF1 => ?_
  refine wl (eP 9 (v0 := .bool (decide (1125899906842624 = 1125899906842624))) (v := .bool true) hF1 (by kernel_rfl) (fun _ => by kernel_rfl) (bT (by omega)) fun a1 hF1 => ?_)
  refine sB 4 [(10, .bool true), (11, .bool true), (12, .bool true), (6, .bool true)] hF1 (by kernel_rfl) fun a1 hF1 => ?_
  refine wpList_nil ?_
  refine hK58 _ _ ?_
  refine wp_ret ?_
  refine hR56 _ _ ?_
  refine ret_of hF1 hM (.tmp rfl (.nil)) ⟨_, rfl, ?_⟩
  intro a hF
  refine sB 4 [(158, .bool true), (159, .bool true), (160, .int .i64 0), (161, .bool false)] hF (by kernel_rfl) fun a hF => ?_
  refine wl (sC (f := 32) (args := #[.int .i64 0, .bool false]) hF (by kernel_rfl) rfl (by decide) (by kernel_rfl) (fun _ => by kernel_rfl) ?_)
  refine enterK 11 Tryd.func32 rfl rfl rfl ?_
  intro a1 hF1 QR59 hR59 hNR59
  refine wp_seq_k fun K60 hK60 => ?_
  refine wp_region_lit ?_
  refine sB 1 [(4, .bool false)] hF1 (by kernel_rfl) fun a1 hF1 => ?_
  refine wpList_nil ?_
  refine hK60 _ _ ?_
  refine wp_seq_k fun K61 hK61 => ?_
  refine wp_region_lit ?_
  refine sB 1 [(5, .int .i64 0)] hF1 (by kernel_rfl) fun a1 hF1 => ?_
  refine wl (eP 6 (v0 := .bool (decide (0 = 0))) (v := .bool true) hF1 (by kernel_rfl) (fun _ => by kernel_rfl) (bT (by omega)) fun a1 hF1 => ?_)
  refine sB 5 [(7, .bool true), (8, .bool false), (9, .bool true), (10, .bool true), (4, .bool true)] hF1 (by kernel_rfl) fun a1 hF1 => ?_
  refine wpList_nil ?_
  refine hK61 _ _ ?_
  refine wp_ret ?_
  refine hR59 _ _ ?_
  refine ret_of hF1 hM (.tmp rfl (.nil)) ⟨_, rfl, ?_⟩
  intro a hF
  refine sB 4 [(163, .bool true), (164, .bool true), (165, .int .i64 0), (166, .bool false)] hF (by kernel_rfl) fun a hF => ?_
  refine wl (sC (f := 32) (args := #[.int .i64 0, .bool false]) hF (by kernel_rfl) rfl (by decide) (by kernel_rfl) (fun _ => by kernel_rfl) ?_)
  refine enterK 11 Tryd.func32 rfl rfl rfl ?_
  intro a1 hF1 QR62 hR62 hNR62
  refine wp_seq_k fun K63 hK63 => ?_
  refine wp_region_lit ?_
  refine sB 1 [(4, .bool false)] hF1 (by kernel_rfl) fun a1 hF1 => ?_
  refine wpList_nil ?_
  refine hK63 _ _ ?_
  refine wp_seq_k fun K64 hK64 => ?_
  refine wp_region_lit ?_
  refine sB 1 [(5, .int .i64 0)] hF1 (by kernel_rfl) fun a1 hF1 => ?_
  refine wl (eP 6 (v0 := .bool (decide (0 = 0))) (v := .bool true) hF1 (by kernel_rfl) (fun _ => by kernel_rfl) (bT (by omega)) fun a1 hF1 => ?_)
  refine sB 5 [(7, .bool true), (8, .bool false), (9, .bool true), (10, .bool true), (4, .bool true)] hF1 (by kernel_rfl) fun a1 hF1 => ?_
  refine wpList_nil ?_
  refine hK64 _ _ ?_
  refine wp_ret ?_
  refine hR62 _ _ ?_
  refine ret_of hF1 hM (.tmp rfl (.nil)) ⟨_, rfl, ?_⟩
  intro a hF
  refine sB 2 [(168, .bool true), (33, .bool true)] hF (by kernel_rfl) fun a hF => ?_
  refine wpList_nil ?_
  refine hK49 _ _ ?_
  refine wp_seq_k fun K65 hK65 => ?_
  refine wp_region_lit ?_
  refine wl (eN 170 1 (t := 3) (fun b => .slice (some ⟨b, 0, none⟩) 3 3) #[.int .i64 4, .int .i64 6, .int .i64 10] hF hM (by kernel_rfl) (fun _ => by kernel_rfl) fun bb1 a w hF hM => ?_)
  refine wl (eM 171 (v := .tuple #[.int .i64 60, .bool true]) hF hM (by kernel_rfl) (Yld.to (yld_call (f := 23) (args := #[.slice (some ⟨bb1, 0, none⟩) 3 3]) hF (by kernel_rfl) (fun _ => by kernel_rfl) (fun w hM => lcm_w (some ⟨bb1, 0, none⟩) [4, 6, 10] 3 w (hM.roRow (k := 1) rfl) (by first | omega | (simp; done)) (hT.below (Nat.le_refl _) hM.bel))) (by kernel_rfl)) fun a w hF hM => ?_)
  refine sB 5 [(169, .tuple #[.int .i64 60, .bool true]), (172, .int .i64 60), (173, .bool true), (34, .int .i64 60), (35, .bool true)] hF (by kernel_rfl) fun a hF => ?_
  refine wpList_nil ?_
  refine hK65 _ _ ?_
  refine wp_seq_k fun K66 hK66 => ?_
  refine wp_region_lit ?_
  refine wl (eM 175 (v := .tuple #[.int .i64 1, .bool true]) hF hM (by kernel_rfl) (Yld.to (yld_call (f := 23) (args := #[.slice none 0 0]) hF (by kernel_rfl) (fun _ => by kernel_rfl) (fun w hM => lcm_w none ([] : List Int) 0 w Ro.nil (by first | omega | (simp; done)) (hT.below (Nat.le_refl _) hM.bel))) (by kernel_rfl)) fun a w hF hM => ?_)
  refine sB 5 [(174, .tuple #[.int .i64 1, .bool true]), (176, .int .i64 1), (177, .bool true), (36, .int .i64 1), (37, .bool true)] hF (by kernel_rfl) fun a hF => ?_
  refine wpList_nil ?_
  refine hK66 _ _ ?_
  refine wp_seq_k fun K67 hK67 => ?_
  refine wp_region_lit ?_
  refine wl (eN 179 2 (t := 3) (fun b => .slice (some ⟨b, 0, none⟩) 2 2) #[.int .i64 3, .int .i64 0] hF hM (by kernel_rfl) (fun _ => by kernel_rfl) fun bb2 a w hF hM => ?_)
  refine wl (eM 180 (v := .tuple #[.int .i64 0, .bool false]) hF hM (by kernel_rfl) (Yld.to (yld_call (f := 23) (args := #[.slice (some ⟨bb2, 0, none⟩) 2 2]) hF (by kernel_rfl) (fun _ => by kernel_rfl) (fun w hM => lcm_w (some ⟨bb2, 0, none⟩) [3, 0] 2 w (hM.roRow (k := 2) rfl) (by first | omega | (simp; done)) (hT.below (Nat.le_refl _) hM.bel))) (by kernel_rfl)) fun a w hF hM => ?_)
  refine sB 5 [(178, .tuple #[.int .i64 0, .bool false]), (181, .int .i64 0), (182, .bool false), (38, .int .i64 0), (39, .bool false)] hF (by kernel_rfl) fun a hF => ?_
  refine wpList_nil ?_
  refine hK67 _ _ ?_
  refine wp_seq_k fun K68 hK68 => ?_
  refine wp_region_lit ?_
  refine sB 8 [(183, .bool true), (184, .bool true), (185, .bool true), (186, .bool true), (187, .bool true), (188, .bool true), (189, .bool true), (190, .bool true)] hF (by kernel_rfl) fun a hF => ?_
  refine wl (eM 191 (v := .int .i64 6) hF hM (by kernel_rfl) (Yld.to (yld_call (f := 21) (args := #[.int .i64 12, .int .i64 (-18)]) hF (by kernel_rfl) (fun _ => by kernel_rfl) (fun w hM => gcd_w 12 (-18) w (hT.below (Nat.le_refl _) hM.bel))) (by kernel_rfl)) fun a w hF hM => ?_)
  have := gcV_bd 12 (-18)
  refine wl (eP 192 (v0 := .bool (decide (6 = 6))) (v := .bool true) hF (by kernel_rfl) (fun _ => by kernel_rfl) (bT (by omega)) fun a hF => ?_)
  refine sB 2 [(193, .bool true), (194, .bool true)] hF (by kernel_rfl) fun a hF => ?_
  refine wl (eM 195 (v := .int .i64 0) hF hM (by kernel_rfl) (Yld.to (yld_call (f := 21) (args := #[.int .i64 0, .int .i64 0]) hF (by kernel_rfl) (fun _ => by kernel_rfl) (fun w hM => gcd_w 0 0 w (hT.below (Nat.le_refl _) hM.bel))) (by kernel_rfl)) fun a w hF hM => ?_)
  have := gcV_bd 0 0
  refine wl (eP 196 (v0 := .bool (decide (0 = 0))) (v := .bool true) hF (by kernel_rfl) (fun _ => by kernel_rfl) (bT (by omega)) fun a hF => ?_)
  refine sB 4 [(197, .bool true), (198, .bool true), (199, .int .i64 60), (200, .bool true)] hF (by kernel_rfl) fun a hF => ?_
  refine wl (sC (f := 25) (args := #[.int .i64 60, .bool true, .int .i64 60]) hF (by kernel_rfl) rfl (by decide) (by kernel_rfl) (fun _ => by kernel_rfl) ?_)
  refine enterK 13 Tryd.func25 rfl rfl rfl ?_
  intro a1 hF1 QR69 hR69 hNR69
  refine wp_seq_k fun K70 hK70 => ?_
  refine wp_region_lit ?_
  refine sB 1 [(6, .bool false)] hF1 (by kernel_rfl) fun a1 hF1 => ?_
  refine wpList_nil ?_
  refine hK70 _ _ ?_
  refine wp_seq_k fun K71 hK71 => ?_
  refine wp_region_lit ?_
  refine sB 2 [(7, .int .i64 60), (8, .int .i64 60)] hF1 (by kernel_rfl) fun a1 hF1 => ?_
  refine wl (eP 9 (v0 := .bool (decide (60 = 60))) (v := .bool true) hF1 (by kernel_rfl) (fun _ => by kernel_rfl) (bT (by omega)) fun a1 hF1 => ?_)
  refine sB 4 [(10, .bool true), (11, .bool true), (12, .bool true), (6, .bool true)] hF1 (by kernel_rfl) fun a1 hF1 => ?_
  refine wpList_nil ?_
  refine hK71 _ _ ?_
  refine wp_ret ?_
  refine hR69 _ _ ?_
  refine ret_of hF1 hM (.tmp rfl (.nil)) ⟨_, rfl, ?_⟩
  intro a hF
  refine sB 4 [(202, .bool true), (203, .bool true), (204, .int .i64 1), (205, .bool true)] hF (by kernel_rfl) fun a hF => ?_
  refine wl (sC (f := 25) (args := #[.int .i64 1, .bool true, .int .i64 1]) hF (by kernel_rfl) rfl (by decide) (by kernel_rfl) (fun _ => by kernel_rfl) ?_)
  refine enterK 13 Tryd.func25 rfl rfl rfl ?_
  intro a1 hF1 QR72 hR72 hNR72
  refine wp_seq_k fun K73 hK73 => ?_
  refine wp_region_lit ?_
  refine sB 1 [(6, .bool false)] hF1 (by kernel_rfl) fun a1 hF1 => ?_
  refine wpList_nil ?_
  refine hK73 _ _ ?_
  refine wp_seq_k fun K74 hK74 => ?_
  refine wp_region_lit ?_
  refine sB 2 [(7, .int .i64 1), (8, .int .i64 1)] hF1 (by kernel_rfl) fun a1 hF1 => ?_
  refine wl (eP 9 (v0 := .bool (decide (1 = 1))) (v := .bool true) hF1 (by kernel_rfl) (fun _ => by kernel_rfl) (bT (by omega)) fun a1 hF1 => ?_)
  refine sB 4 [(10, .bool true), (11, .bool true), (12, .bool true), (6, .bool true)] hF1 (by kernel_rfl) fun a1 hF1 => ?_
  refine wpList_nil ?_
  refine hK74 _ _ ?_
  refine wp_ret ?_
  refine hR72 _ _ ?_
  refine ret_of hF1 hM (.tmp rfl (.nil)) ⟨_, rfl, ?_⟩
  intro a hF
  refine sB 4 [(207, .bool true), (208, .bool true), (209, .int .i64 0), (210, .bool false)] hF (by kernel_rfl) fun a hF => ?_
  refine wl (sC (f := 32) (args := #[.int .i64 0, .bool false]) hF (by kernel_rfl) rfl (by decide) (by kernel_rfl) (fun _ => by kernel_rfl) ?_)
  refine enterK 11 Tryd.func32 rfl rfl rfl ?_
  intro a1 hF1 QR75 hR75 hNR75
  refine wp_seq_k fun K76 hK76 => ?_
  refine wp_region_lit ?_
  refine sB 1 [(4, .bool false)] hF1 (by kernel_rfl) fun a1 hF1 => ?_
  refine wpList_nil ?_
  refine hK76 _ _ ?_
  refine wp_seq_k fun K77 hK77 => ?_
  refine wp_region_lit ?_
  refine sB 1 [(5, .int .i64 0)] hF1 (by kernel_rfl) fun a1 hF1 => ?_
  refine wl (eP 6 (v0 := .bool (decide (0 = 0))) (v := .bool true) hF1 (by kernel_rfl) (fun _ => by kernel_rfl) (bT (by omega)) fun a1 hF1 => ?_)
  refine sB 5 [(7, .bool true), (8, .bool false), (9, .bool true), (10, .bool true), (4, .bool true)] hF1 (by kernel_rfl) fun a1 hF1 => ?_
  refine wpList_nil ?_
  refine hK77 _ _ ?_
  refine wp_ret ?_
  refine hR75 _ _ ?_
  refine ret_of hF1 hM (.tmp rfl (.nil)) ⟨_, rfl, ?_⟩
  intro a hF
  refine sB 2 [(212, .bool true), (0, .bool true)] hF (by kernel_rfl) fun a hF => ?_
  refine wpList_nil ?_
  refine hK68 _ _ ?_
  refine wp_ret ?_
  refine hR0 _ _ ?_
  refine ret_of hF hM (.tmp rfl (.nil)) ?_
  exact ⟨rfl, hM.bel⟩

end Go.Proofs.YtjfjcjbjdbjlgaaDoor
