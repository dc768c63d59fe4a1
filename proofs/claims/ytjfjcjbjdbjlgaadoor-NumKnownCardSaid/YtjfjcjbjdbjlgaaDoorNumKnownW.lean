/-
  The walk of NumKnown.
-/
import Derived.Test.YtjfjcjbjdbjlgaaDoorNumD
namespace Go.Proofs.YtjfjcjbjdbjlgaaDoor
open Go.RowKit
set_option linter.unusedVariables false
set_option linter.unusedSimpArgs false

set_option maxRecDepth 100000 in
set_option maxHeartbeats 4000000 in
theorem numKnown_walk (w0 : World) (hT : Tab w0) :
    Calls Tryd.prog 10 #[] w0 (Ret w0 (.bool true)) := by
  refine enterK 182 Tryd.func10 rfl rfl rfl ?_
  intro a hF Q0 hR0 hN0
  have hM := Mem.start w0
  refine wp_seq_k fun K1 hK1 => ?_
  refine wp_region_lit ?_
  refine sB 1 [(0, .bool false)] hF (by kernel_rfl) fun a hF => ?_
  refine wpList_nil ?_
  refine hK1 _ _ ?_
  refine wp_seq_k fun K2 hK2 => ?_
  refine wp_region_lit ?_
  refine wl (eM 32 (v := .tuple #[.int .i64 (-1125899906842624), .bool true]) hF hM (by kernel_rfl) (Yld.to (yld_call (f := 28) (args := #[.int .i64 (-1125899906842624), .int .i64 0]) hF (by kernel_rfl) (fun _ => by kernel_rfl) (fun w hM => nSub_w (-1125899906842624) 0 w)) (by kernel_rfl)) fun a w hF hM => ?_)
  refine sB 5 [(31, .tuple #[.int .i64 (-1125899906842624), .bool true]), (33, .int .i64 (-1125899906842624)), (34, .bool true), (1, .int .i64 (-1125899906842624)), (2, .bool true)] hF (by kernel_rfl) fun a hF => ?_
  refine wpList_nil ?_
  refine hK2 _ _ ?_
  refine wp_seq_k fun K3 hK3 => ?_
  refine wp_region_lit ?_
  refine wl (eM 36 (v := .tuple #[.int .i64 0, .bool false]) hF hM (by kernel_rfl) (Yld.to (yld_call (f := 28) (args := #[.int .i64 (-1125899906842624), .int .i64 1]) hF (by kernel_rfl) (fun _ => by kernel_rfl) (fun w hM => nSub_w (-1125899906842624) 1 w)) (by kernel_rfl)) fun a w hF hM => ?_)
  refine sB 5 [(35, .tuple #[.int .i64 0, .bool false]), (37, .int .i64 0), (38, .bool false), (3, .int .i64 0), (4, .bool false)] hF (by kernel_rfl) fun a hF => ?_
  refine wpList_nil ?_
  refine hK3 _ _ ?_
  refine wp_seq_k fun K4 hK4 => ?_
  refine wp_region_lit ?_
  refine wl (eM 40 (v := .tuple #[.int .i64 (-1125899906842624), .bool true]) hF hM (by kernel_rfl) (Yld.to (yld_call (f := 30) (args := #[.int .i64 1125899906842624, .int .i64 (-1)]) hF (by kernel_rfl) (fun _ => by kernel_rfl) (fun w hM => nMul_w 1125899906842624 (-1) w)) (by kernel_rfl)) fun a w hF hM => ?_)
  refine sB 5 [(39, .tuple #[.int .i64 (-1125899906842624), .bool true]), (41, .int .i64 (-1125899906842624)), (42, .bool true), (5, .int .i64 (-1125899906842624)), (6, .bool true)] hF (by kernel_rfl) fun a hF => ?_
  refine wpList_nil ?_
  refine hK4 _ _ ?_
  refine wp_seq_k fun K5 hK5 => ?_
  refine wp_region_lit ?_
  refine wl (eM 44 (v := .tuple #[.int .i64 0, .bool false]) hF hM (by kernel_rfl) (Yld.to (yld_call (f := 30) (args := #[.int .i64 (-9223372036854775808), .int .i64 0]) hF (by kernel_rfl) (fun _ => by kernel_rfl) (fun w hM => nMul_w (-9223372036854775808) 0 w)) (by kernel_rfl)) fun a w hF hM => ?_)
  refine sB 5 [(43, .tuple #[.int .i64 0, .bool false]), (45, .int .i64 0), (46, .bool false), (7, .int .i64 0), (8, .bool false)] hF (by kernel_rfl) fun a hF => ?_
  refine wpList_nil ?_
  refine hK5 _ _ ?_
  refine wp_seq_k fun K6 hK6 => ?_
  refine wp_region_lit ?_
  refine wl (eM 48 (v := .tuple #[.int .i64 (-1), .bool true]) hF hM (by kernel_rfl) (Yld.to (yld_call (f := 12) (args := #[.int .i64 (-1125899906842624), .int .i64 1125899906842624]) hF (by kernel_rfl) (fun _ => by kernel_rfl) (fun w hM => nFloor_w (-1125899906842624) 1125899906842624 w)) (by kernel_rfl)) fun a w hF hM => ?_)
  refine sB 5 [(47, .tuple #[.int .i64 (-1), .bool true]), (49, .int .i64 (-1)), (50, .bool true), (9, .int .i64 (-1)), (10, .bool true)] hF (by kernel_rfl) fun a hF => ?_
  refine wpList_nil ?_
  refine hK6 _ _ ?_
  refine wp_seq_k fun K7 hK7 => ?_
  refine wp_region_lit ?_
  refine wl (eM 52 (v := .tuple #[.int .i64 1, .bool true]) hF hM (by kernel_rfl) (Yld.to (yld_call (f := 14) (args := #[.int .i64 1, .int .i64 1125899906842624]) hF (by kernel_rfl) (fun _ => by kernel_rfl) (fun w hM => nCeil_w 1 1125899906842624 w)) (by kernel_rfl)) fun a w hF hM => ?_)
  refine sB 5 [(51, .tuple #[.int .i64 1, .bool true]), (53, .int .i64 1), (54, .bool true), (11, .int .i64 1), (12, .bool true)] hF (by kernel_rfl) fun a hF => ?_
  refine wpList_nil ?_
  refine hK7 _ _ ?_
  refine wp_seq_k fun K8 hK8 => ?_
  refine wp_region_lit ?_
  refine wl (eM 56 (v := .tuple #[.int .i64 0, .bool false]) hF hM (by kernel_rfl) (Yld.to (yld_call (f := 12) (args := #[.int .i64 5, .int .i64 (-1)]) hF (by kernel_rfl) (fun _ => by kernel_rfl) (fun w hM => nFloor_w 5 (-1) w)) (by kernel_rfl)) fun a w hF hM => ?_)
  refine sB 5 [(55, .tuple #[.int .i64 0, .bool false]), (57, .int .i64 0), (58, .bool false), (13, .int .i64 0), (14, .bool false)] hF (by kernel_rfl) fun a hF => ?_
  refine wpList_nil ?_
  refine hK8 _ _ ?_
  refine wp_seq_k fun K9 hK9 => ?_
  refine wp_region_lit ?_
  refine wl (eM 60 (v := .tuple #[.int .i64 (-1125899906842623), .bool true]) hF hM (by kernel_rfl) (Yld.to (yld_call (f := 19) (args := #[.int .i64 (-1125899906842624), .int .i64 1125899906842623, .int .i64 1125899906842624]) hF (by kernel_rfl) (fun _ => by kernel_rfl) (fun w hM => mulDiv_w (-1125899906842624) 1125899906842623 1125899906842624 w)) (by kernel_rfl)) fun a w hF hM => ?_)
  refine sB 5 [(59, .tuple #[.int .i64 (-1125899906842623), .bool true]), (61, .int .i64 (-1125899906842623)), (62, .bool true), (15, .int .i64 (-1125899906842623)), (16, .bool true)] hF (by kernel_rfl) fun a hF => ?_
  refine wpList_nil ?_
  refine hK9 _ _ ?_
  refine wp_seq_k fun K10 hK10 => ?_
  refine wp_region_lit ?_
  refine wl (eM 64 (v := .tuple #[.int .i64 0, .bool false]) hF hM (by kernel_rfl) (Yld.to (yld_call (f := 19) (args := #[.int .i64 1125899906842624, .int .i64 1125899906842624, .int .i64 1125899906842623]) hF (by kernel_rfl) (fun _ => by kernel_rfl) (fun w hM => mulDiv_w 1125899906842624 1125899906842624 1125899906842623 w)) (by kernel_rfl)) fun a w hF hM => ?_)
  refine sB 5 [(63, .tuple #[.int .i64 0, .bool false]), (65, .int .i64 0), (66, .bool false), (17, .int .i64 0), (18, .bool false)] hF (by kernel_rfl) fun a hF => ?_
  refine wpList_nil ?_
  refine hK10 _ _ ?_
  refine wp_seq_k fun K11 hK11 => ?_
  refine wp_region_lit ?_
  refine wl (eM 68 (v := .tuple #[.int .i64 0, .bool true]) hF hM (by kernel_rfl) (Yld.to (yld_call (f := 19) (args := #[.int .i64 0, .int .i64 (-1125899906842624), .int .i64 7]) hF (by kernel_rfl) (fun _ => by kernel_rfl) (fun w hM => mulDiv_w 0 (-1125899906842624) 7 w)) (by kernel_rfl)) fun a w hF hM => ?_)
  refine sB 5 [(67, .tuple #[.int .i64 0, .bool true]), (69, .int .i64 0), (70, .bool true), (19, .int .i64 0), (20, .bool true)] hF (by kernel_rfl) fun a hF => ?_
  refine wpList_nil ?_
  refine hK11 _ _ ?_
  refine wp_seq_k fun K12 hK12 => ?_
  refine wp_region_lit ?_
  refine wl (eN 72 1 (t := 3) (fun b => .slice (some ⟨b, 0, none⟩) 3 3) #[.int .i64 33554432, .int .i64 3, .int .i64 16777216] hF hM (by kernel_rfl) (fun _ => by kernel_rfl) fun bb1 a w hF hM => ?_)
  refine wl (eM 73 (v := .tuple #[.int .i64 100663296, .bool true]) hF hM (by kernel_rfl) (Yld.to (yld_call (f := 23) (args := #[.slice (some ⟨bb1, 0, none⟩) 3 3]) hF (by kernel_rfl) (fun _ => by kernel_rfl) (fun w hM => lcm_w (some ⟨bb1, 0, none⟩) [33554432, 3, 16777216] 3 w (hM.roRow (k := 1) rfl) (by first | omega | (simp; done)) (hT.below (Nat.le_refl _) hM.bel))) (by kernel_rfl)) fun a w hF hM => ?_)
  refine sB 5 [(71, .tuple #[.int .i64 100663296, .bool true]), (74, .int .i64 100663296), (75, .bool true), (21, .int .i64 100663296), (22, .bool true)] hF (by kernel_rfl) fun a hF => ?_
  refine wpList_nil ?_
  refine hK12 _ _ ?_
  refine wp_seq_k fun K13 hK13 => ?_
  refine wp_region_lit ?_
  refine wl (eN 77 2 (t := 3) (fun b => .slice (some ⟨b, 0, none⟩) 2 2) #[.int .i64 1125899906842624, .int .i64 3] hF hM (by kernel_rfl) (fun _ => by kernel_rfl) fun bb2 a w hF hM => ?_)
  refine wl (eM 78 (v := .tuple #[.int .i64 0, .bool false]) hF hM (by kernel_rfl) (Yld.to (yld_call (f := 23) (args := #[.slice (some ⟨bb2, 0, none⟩) 2 2]) hF (by kernel_rfl) (fun _ => by kernel_rfl) (fun w hM => lcm_w (some ⟨bb2, 0, none⟩) [1125899906842624, 3] 2 w (hM.roRow (k := 2) rfl) (by first | omega | (simp; done)) (hT.below (Nat.le_refl _) hM.bel))) (by kernel_rfl)) fun a w hF hM => ?_)
  refine sB 5 [(76, .tuple #[.int .i64 0, .bool false]), (79, .int .i64 0), (80, .bool false), (23, .int .i64 0), (24, .bool false)] hF (by kernel_rfl) fun a hF => ?_
  refine wpList_nil ?_
  refine hK13 _ _ ?_
  refine wp_seq_k fun K14 hK14 => ?_
  refine wp_region_lit ?_
  refine wl (eN 82 3 (t := 3) (fun b => .slice (some ⟨b, 0, none⟩) 1 1) #[.int .i64 (-2)] hF hM (by kernel_rfl) (fun _ => by kernel_rfl) fun bb3 a w hF hM => ?_)
  refine wl (eM 83 (v := .tuple #[.int .i64 0, .bool false]) hF hM (by kernel_rfl) (Yld.to (yld_call (f := 23) (args := #[.slice (some ⟨bb3, 0, none⟩) 1 1]) hF (by kernel_rfl) (fun _ => by kernel_rfl) (fun w hM => lcm_w (some ⟨bb3, 0, none⟩) [-2] 1 w (hM.roRow (k := 3) rfl) (by first | omega | (simp; done)) (hT.below (Nat.le_refl _) hM.bel))) (by kernel_rfl)) fun a w hF hM => ?_)
  refine sB 5 [(81, .tuple #[.int .i64 0, .bool false]), (84, .int .i64 0), (85, .bool false), (25, .int .i64 0), (26, .bool false)] hF (by kernel_rfl) fun a hF => ?_
  refine wpList_nil ?_
  refine hK14 _ _ ?_
  refine wp_seq_k fun K15 hK15 => ?_
  refine wp_region_lit ?_
  refine wl (eN 87 4 (t := 3) (fun b => .slice (some ⟨b, 0, none⟩) 1 1) #[.int .i64 1125899906842625] hF hM (by kernel_rfl) (fun _ => by kernel_rfl) fun bb4 a w hF hM => ?_)
  refine wl (eM 88 (v := .tuple #[.int .i64 0, .bool false]) hF hM (by kernel_rfl) (Yld.to (yld_call (f := 23) (args := #[.slice (some ⟨bb4, 0, none⟩) 1 1]) hF (by kernel_rfl) (fun _ => by kernel_rfl) (fun w hM => lcm_w (some ⟨bb4, 0, none⟩) [1125899906842625] 1 w (hM.roRow (k := 4) rfl) (by first | omega | (simp; done)) (hT.below (Nat.le_refl _) hM.bel))) (by kernel_rfl)) fun a w hF hM => ?_)
  refine sB 5 [(86, .tuple #[.int .i64 0, .bool false]), (89, .int .i64 0), (90, .bool false), (27, .int .i64 0), (28, .bool false)] hF (by kernel_rfl) fun a hF => ?_
  refine wpList_nil ?_
  refine hK15 _ _ ?_
  refine wp_seq_k fun K16 hK16 => ?_
  refine wp_region_lit ?_
  refine sB 2 [(91, .int .i64 (-1125899906842624)), (92, .bool true)] hF (by kernel_rfl) fun a hF => ?_
  refine wl (sC (f := 25) (args := #[.int .i64 (-1125899906842624), .bool true, .int .i64 (-1125899906842624)]) hF (by kernel_rfl) rfl (by decide) (by kernel_rfl) (fun _ => by kernel_rfl) ?_)
  refine enterK 13 Tryd.func25 rfl rfl rfl ?_
  intro a1 hF1 QR17 hR17 hNR17
  refine wp_seq_k fun K18 hK18 => ?_
  refine wp_region_lit ?_
  refine sB 1 [(6, .bool false)] hF1 (by kernel_rfl) fun a1 hF1 => ?_
  refine wpList_nil ?_
  refine hK18 _ _ ?_
  refine wp_seq_k fun K19 hK19 => ?_
  refine wp_region_lit ?_
  refine sB 2 [(7, .int .i64 (-1125899906842624)), (8, .int .i64 (-1125899906842624))] hF1 (by kernel_rfl) fun a1 hF1 => ?_
  refine wl (eP 9 (v0 := .bool (decide (-1125899906842624 = -1125899906842624))) (v := .bool true) hF1 (by kernel_rfl) (fun _ => by kernel_rfl) (bT (by omega)) fun a1 hF1 => ?_)
  refine sB 4 [(10, .bool true), (11, .bool true), (12, .bool true), (6, .bool true)] hF1 (by kernel_rfl) fun a1 hF1 => ?_
  refine wpList_nil ?_
  refine hK19 _ _ ?_
  refine wp_ret ?_
  refine hR17 _ _ ?_
  refine ret_of hF1 hM (.tmp rfl (.nil)) ⟨_, rfl, ?_⟩
  intro a hF
  refine sB 3 [(94, .bool true), (95, .int .i64 0), (96, .bool false)] hF (by kernel_rfl) fun a hF => ?_
  refine wl (sC (f := 32) (args := #[.int .i64 0, .bool false]) hF (by kernel_rfl) rfl (by decide) (by kernel_rfl) (fun _ => by kernel_rfl) ?_)
  refine enterK 11 Tryd.func32 rfl rfl rfl ?_
  intro a1 hF1 QR20 hR20 hNR20
  refine wp_seq_k fun K21 hK21 => ?_
  refine wp_region_lit ?_
  refine sB 1 [(4, .bool false)] hF1 (by kernel_rfl) fun a1 hF1 => ?_
  refine wpList_nil ?_
  refine hK21 _ _ ?_
  refine wp_seq_k fun K22 hK22 => ?_
  refine wp_region_lit ?_
  refine sB 1 [(5, .int .i64 0)] hF1 (by kernel_rfl) fun a1 hF1 => ?_
  refine wl (eP 6 (v0 := .bool (decide (0 = 0))) (v := .bool true) hF1 (by kernel_rfl) (fun _ => by kernel_rfl) (bT (by omega)) fun a1 hF1 => ?_)
  refine sB 5 [(7, .bool true), (8, .bool false), (9, .bool true), (10, .bool true), (4, .bool true)] hF1 (by kernel_rfl) fun a1 hF1 => ?_
  refine wpList_nil ?_
  refine hK22 _ _ ?_
  refine wp_ret ?_
  refine hR20 _ _ ?_
  refine ret_of hF1 hM (.tmp rfl (.nil)) ⟨_, rfl, ?_⟩
  intro a hF
  refine sB 4 [(98, .bool true), (99, .bool true), (100, .int .i64 (-1125899906842624)), (101, .bool true)] hF (by kernel_rfl) fun a hF => ?_
  refine wl (sC (f := 25) (args := #[.int .i64 (-1125899906842624), .bool true, .int .i64 (-1125899906842624)]) hF (by kernel_rfl) rfl (by decide) (by kernel_rfl) (fun _ => by kernel_rfl) ?_)
  refine enterK 13 Tryd.func25 rfl rfl rfl ?_
  intro a1 hF1 QR23 hR23 hNR23
  refine wp_seq_k fun K24 hK24 => ?_
  refine wp_region_lit ?_
  refine sB 1 [(6, .bool false)] hF1 (by kernel_rfl) fun a1 hF1 => ?_
  refine wpList_nil ?_
  refine hK24 _ _ ?_
  refine wp_seq_k fun K25 hK25 => ?_
  refine wp_region_lit ?_
  refine sB 2 [(7, .int .i64 (-1125899906842624)), (8, .int .i64 (-1125899906842624))] hF1 (by kernel_rfl) fun a1 hF1 => ?_
  refine wl (eP 9 (v0 := .bool (decide (-1125899906842624 = -1125899906842624))) (v := .bool true) hF1 (by kernel_rfl) (fun _ => by kernel_rfl) (bT (by omega)) fun a1 hF1 => ?_)
  refine sB 4 [(10, .bool true), (11, .bool true), (12, .bool true), (6, .bool true)] hF1 (by kernel_rfl) fun a1 hF1 => ?_
  refine wpList_nil ?_
  refine hK25 _ _ ?_
  refine wp_ret ?_
  refine hR23 _ _ ?_
  refine ret_of hF1 hM (.tmp rfl (.nil)) ⟨_, rfl, ?_⟩
  intro a hF
  refine sB 4 [(103, .bool true), (104, .bool true), (105, .int .i64 0), (106, .bool false)] hF (by kernel_rfl) fun a hF => ?_
  refine wl (sC (f := 32) (args := #[.int .i64 0, .bool false]) hF (by kernel_rfl) rfl (by decide) (by kernel_rfl) (fun _ => by kernel_rfl) ?_)
  refine enterK 11 Tryd.func32 rfl rfl rfl ?_
  intro a1 hF1 QR26 hR26 hNR26
  refine wp_seq_k fun K27 hK27 => ?_
  refine wp_region_lit ?_
  refine sB 1 [(4, .bool false)] hF1 (by kernel_rfl) fun a1 hF1 => ?_
  refine wpList_nil ?_
  refine hK27 _ _ ?_
  refine wp_seq_k fun K28 hK28 => ?_
  refine wp_region_lit ?_
  refine sB 1 [(5, .int .i64 0)] hF1 (by kernel_rfl) fun a1 hF1 => ?_
  refine wl (eP 6 (v0 := .bool (decide (0 = 0))) (v := .bool true) hF1 (by kernel_rfl) (fun _ => by kernel_rfl) (bT (by omega)) fun a1 hF1 => ?_)
  refine sB 5 [(7, .bool true), (8, .bool false), (9, .bool true), (10, .bool true), (4, .bool true)] hF1 (by kernel_rfl) fun a1 hF1 => ?_
  refine wpList_nil ?_
  refine hK28 _ _ ?_
  refine wp_ret ?_
  refine hR26 _ _ ?_
  refine ret_of hF1 hM (.tmp rfl (.nil)) ⟨_, rfl, ?_⟩
  intro a hF
  refine sB 4 [(108, .bool true), (109, .bool true), (110, .int .i64 (-1)), (111, .bool true)] hF (by kernel_rfl) fun a hF => ?_
  refine wl (sC (f := 25) (args := #[.int .i64 (-1), .bool true, .int .i64 (-1)]) hF (by kernel_rfl) rfl (by decide) (by kernel_rfl) (fun _ => by kernel_rfl) ?_)
  refine enterK 13 Tryd.func25 rfl rfl rfl ?_
  intro a1 hF1 QR29 hR29 hNR29
  refine wp_seq_k fun K30 hK30 => ?_
  refine wp_region_lit ?_
  refine sB 1 [(6, .bool false)] hF1 (by kernel_rfl) fun a1 hF1 => ?_
  refine wpList_nil ?_
  refine hK30 _ _ ?_
  refine wp_seq_k fun K31 hK31 => ?_
  refine wp_region_lit ?_
  refine sB 2 [(7, .int .i64 (-1)), (8, .int .i64 (-1))] hF1 (by kernel_rfl) fun a1 hF1 => ?_
  refine wl (eP 9 (v0 := .bool (decide (-1 = -1))) (v := .bool true) hF1 (by kernel_rfl) (fun _ => by kernel_rfl) (bT (by omega)) fun a1 hF1 => ?_)
  refine sB 4 [(10, .bool true), (11, .bool true), (12, .bool true), (6, .bool true)] hF1 (by kernel_rfl) fun a1 hF1 => ?_
  refine wpList_nil ?_
  refine hK31 _ _ ?_
  refine wp_ret ?_
  refine hR29 _ _ ?_
  refine ret_of hF1 hM (.tmp rfl (.nil)) ⟨_, rfl, ?_⟩
  intro a hF
  refine sB 4 [(113, .bool true), (114, .bool true), (115, .int .i64 1), (116, .bool true)] hF (by kernel_rfl) fun a hF => ?_
  refine wl (sC (f := 25) (args := #[.int .i64 1, .bool true, .int .i64 1]) hF (by kernel_rfl) rfl (by decide) (by kernel_rfl) (fun _ => by kernel_rfl) ?_)
  refine enterK 13 Tryd.func25 rfl rfl rfl ?_
  intro a1 hF1 QR32 hR32 hNR32
  refine wp_seq_k fun K33 hK33 => ?_
  refine wp_region_lit ?_
  refine sB 1 [(6, .bool false)] hF1 (by kernel_rfl) fun a1 hF1 => ?_
  refine wpList_nil ?_
  refine hK33 _ _ ?_
  refine wp_seq_k fun K34 hK34 => ?_
  refine wp_region_lit ?_
  refine sB 2 [(7, .int .i64 1), (8, .int .i64 1)] hF1 (by kernel_rfl) fun a1 hF1 => ?_
  refine wl (eP 9 (v0 := .bool (decide (1 = 1))) (v := .bool true) hF1 (by kernel_rfl) (fun _ => by kernel_rfl) (bT (by omega)) fun a1 hF1 => ?_)
  refine sB 4 [(10, .bool true), (11, .bool true), (12, .bool true), (6, .bool true)] hF1 (by kernel_rfl) fun a1 hF1 => ?_
  refine wpList_nil ?_
  refine hK34 _ _ ?_
  refine wp_ret ?_
  refine hR32 _ _ ?_
  refine ret_of hF1 hM (.tmp rfl (.nil)) ⟨_, rfl, ?_⟩
  intro a hF
  refine sB 4 [(118, .bool true), (119, .bool true), (120, .int .i64 0), (121, .bool false)] hF (by kernel_rfl) fun a hF => ?_
  refine wl (sC (f := 32) (args := #[.int .i64 0, .bool false]) hF (by kernel_rfl) rfl (by decide) (by kernel_rfl) (fun _ => by kernel_rfl) ?_)
  refine enterK 11 Tryd.func32 rfl rfl rfl ?_
  intro a1 hF1 QR35 hR35 hNR35
  refine wp_seq_k fun K36 hK36 => ?_
  refine wp_region_lit ?_
  refine sB 1 [(4, .bool false)] hF1 (by kernel_rfl) fun a1 hF1 => ?_
  refine wpList_nil ?_
  refine hK36 _ _ ?_
  refine wp_seq_k fun K37 hK37 => ?_
  refine wp_region_lit ?_
  refine sB 1 [(5, .int .i64 0)] hF1 (by kernel_rfl) fun a1 hF1 => ?_
  refine wl (eP 6 (v0 := .bool (decide (0 = 0))) (v := .bool true) hF1 (by kernel_rfl) (fun _ => by kernel_rfl) (bT (by omega)) fun a1 hF1 => ?_)
  refine sB 5 [(7, .bool true), (8, .bool false), (9, .bool true), (10, .bool true), (4, .bool true)] hF1 (by kernel_rfl) fun a1 hF1 => ?_
  refine wpList_nil ?_
  refine hK37 _ _ ?_
  refine wp_ret ?_
  refine hR35 _ _ ?_
  refine ret_of hF1 hM (.tmp rfl (.nil)) ⟨_, rfl, ?_⟩
  intro a hF
  refine sB 2 [(123, .bool true), (29, .bool true)] hF (by kernel_rfl) fun a hF => ?_
  refine wpList_nil ?_
  refine hK16 _ _ ?_
  refine wp_seq_k fun K38 hK38 => ?_
  refine wp_region_lit ?_
  refine sB 2 [(124, .int .i64 (-1125899906842623)), (125, .bool true)] hF (by kernel_rfl) fun a hF => ?_
  refine wl (sC (f := 25) (args := #[.int .i64 (-1125899906842623), .bool true, .int .i64 (-1125899906842623)]) hF (by kernel_rfl) rfl (by decide) (by kernel_rfl) (fun _ => by kernel_rfl) ?_)
  refine enterK 13 Tryd.func25 rfl rfl rfl ?_
  intro a1 hF1 QR39 hR39 hNR39
  refine wp_seq_k fun K40 hK40 => ?_
  refine wp_region_lit ?_
  refine sB 1 [(6, .bool false)] hF1 (by kernel_rfl) fun a1 hF1 => ?_
  refine wpList_nil ?_
  refine hK40 _ _ ?_
  refine wp_seq_k fun K41 hK41 => ?_
  refine wp_region_lit ?_
  refine sB 2 [(7, .int .i64 (-1125899906842623)), (8, .int .i64 (-1125899906842623))] hF1 (by kernel_rfl) fun a1 hF1 => ?_
  refine wl (eP 9 (v0 := .bool (decide (-1125899906842623 = -1125899906842623))) (v := .bool true) hF1 (by kernel_rfl) (fun _ => by kernel_rfl) (bT (by omega)) fun a1 hF1 => ?_)
  refine sB 4 [(10, .bool true), (11, .bool true), (12, .bool true), (6, .bool true)] hF1 (by kernel_rfl) fun a1 hF1 => ?_
  refine wpList_nil ?_
  refine hK41 _ _ ?_
  refine wp_ret ?_
  refine hR39 _ _ ?_
  refine ret_of hF1 hM (.tmp rfl (.nil)) ⟨_, rfl, ?_⟩
  intro a hF
  refine sB 3 [(127, .bool true), (128, .int .i64 0), (129, .bool false)] hF (by kernel_rfl) fun a hF => ?_
  refine wl (sC (f := 32) (args := #[.int .i64 0, .bool false]) hF (by kernel_rfl) rfl (by decide) (by kernel_rfl) (fun _ => by kernel_rfl) ?_)
  refine enterK 11 Tryd.func32 rfl rfl rfl ?_
  intro a1 hF1 QR42 hR42 hNR42
  refine wp_seq_k fun K43 hK43 => ?_
  refine wp_region_lit ?_
  refine sB 1 [(4, .bool false)] hF1 (by kernel_rfl) fun a1 hF1 => ?_
  refine wpList_nil ?_
  refine hK43 _ _ ?_
  refine wp_seq_k fun K44 hK44 => ?_
  refine wp_region_lit ?_
  refine sB 1 [(5, .int .i64 0)] hF1 (by kernel_rfl) fun a1 hF1 => ?_
  refine wl (eP 6 (v0 := .bool (decide (0 = 0))) (v := .bool true) hF1 (by kernel_rfl) (fun _ => by kernel_rfl) (bT (by omega)) fun a1 hF1 => ?_)
  refine sB 5 [(7, .bool true), (8, .bool false), (9, .bool true), (10, .bool true), (4, .bool true)] hF1 (by kernel_rfl) fun a1 hF1 => ?_
  refine wpList_nil ?_
  refine hK44 _ _ ?_
  refine wp_ret ?_
  refine hR42 _ _ ?_
  refine ret_of hF1 hM (.tmp rfl (.nil)) ⟨_, rfl, ?_⟩
  intro a hF
  refine sB 4 [(131, .bool true), (132, .bool true), (133, .int .i64 0), (134, .bool true)] hF (by kernel_rfl) fun a hF => ?_
  refine wl (sC (f := 25) (args := #[.int .i64 0, .bool true, .int .i64 0]) hF (by kernel_rfl) rfl (by decide) (by kernel_rfl) (fun _ => by kernel_rfl) ?_)
  refine enterK 13 Tryd.func25 rfl rfl rfl ?_
  intro a1 hF1 QR45 hR45 hNR45
  refine wp_seq_k fun K46 hK46 => ?_
  refine wp_region_lit ?_
  refine sB 1 [(6, .bool false)] hF1 (by kernel_rfl) fun a1 hF1 => ?_
  refine wpList_nil ?_
  refine hK46 _ _ ?_
  refine wp_seq_k fun K47 hK47 => ?_
  refine wp_region_lit ?_
  refine sB 2 [(7, .int .i64 0), (8, .int .i64 0)] hF1 (by kernel_rfl) fun a1 hF1 => ?_
  refine wl (eP 9 (v0 := .bool (decide (0 = 0))) (v := .bool true) hF1 (by kernel_rfl) (fun _ => by kernel_rfl) (bT (by omega)) fun a1 hF1 => ?_)
  refine sB 4 [(10, .bool true), (11, .bool true), (12, .bool true), (6, .bool true)] hF1 (by kernel_rfl) fun a1 hF1 => ?_
  refine wpList_nil ?_
  refine hK47 _ _ ?_
  refine wp_ret ?_
  refine hR45 _ _ ?_
  refine ret_of hF1 hM (.tmp rfl (.nil)) ⟨_, rfl, ?_⟩
  intro a hF
  refine sB 4 [(136, .bool true), (137, .bool true), (138, .int .i64 100663296), (139, .bool true)] hF (by kernel_rfl) fun a hF => ?_
  refine wl (sC (f := 25) (args := #[.int .i64 100663296, .bool true, .int .i64 100663296]) hF (by kernel_rfl) rfl (by decide) (by kernel_rfl) (fun _ => by kernel_rfl) ?_)
  refine enterK 13 Tryd.func25 rfl rfl rfl ?_
  intro a1 hF1 QR48 hR48 hNR48
  refine wp_seq_k fun K49 hK49 => ?_
  refine wp_region_lit ?_
  refine sB 1 [(6, .bool false)] hF1 (by kernel_rfl) fun a1 hF1 => ?_
  refine wpList_nil ?_
  refine hK49 _ _ ?_
  refine wp_seq_k fun K50 hK50 => ?_
  refine wp_region_lit ?_
  refine sB 2 [(7, .int .i64 100663296), (8, .int .i64 100663296)] hF1 (by kernel_rfl) fun a1 hF1 => ?_
  refine wl (eP 9 (v0 := .bool (decide (100663296 = 100663296))) (v := .bool true) hF1 (by kernel_rfl) (fun _ => by kernel_rfl) (bT (by omega)) fun a1 hF1 => ?_)
  refine sB 4 [(10, .bool true), (11, .bool true), (12, .bool true), (6, .bool true)] hF1 (by kernel_rfl) fun a1 hF1 => ?_
  refine wpList_nil ?_
  refine hK50 _ _ ?_
  refine wp_ret ?_
  refine hR48 _ _ ?_
  refine ret_of hF1 hM (.tmp rfl (.nil)) ⟨_, rfl, ?_⟩
  intro a hF
  refine sB 4 [(141, .bool true), (142, .bool true), (143, .int .i64 0), (144, .bool false)] hF (by kernel_rfl) fun a hF => ?_
  refine wl (sC (f := 32) (args := #[.int .i64 0, .bool false]) hF (by kernel_rfl) rfl (by decide) (by kernel_rfl) (fun _ => by kernel_rfl) ?_)
  refine enterK 11 Tryd.func32 rfl rfl rfl ?_
  intro a1 hF1 QR51 hR51 hNR51
  refine wp_seq_k fun K52 hK52 => ?_
  refine wp_region_lit ?_
  refine sB 1 [(4, .bool false)] hF1 (by kernel_rfl) fun a1 hF1 => ?_
  refine wpList_nil ?_
  refine hK52 _ _ ?_
  refine wp_seq_k fun K53 hK53 => ?_
  refine wp_region_lit ?_
  refine sB 1 [(5, .int .i64 0)] hF1 (by kernel_rfl) fun a1 hF1 => ?_
  refine wl (eP 6 (v0 := .bool (decide (0 = 0))) (v := .bool true) hF1 (by kernel_rfl) (fun _ => by kernel_rfl) (bT (by omega)) fun a1 hF1 => ?_)
  refine sB 5 [(7, .bool true), (8, .bool false), (9, .bool true), (10, .bool true), (4, .bool true)] hF1 (by kernel_rfl) fun a1 hF1 => ?_
  refine wpList_nil ?_
  refine hK53 _ _ ?_
  refine wp_ret ?_
  refine hR51 _ _ ?_
  refine ret_of hF1 hM (.tmp rfl (.nil)) ⟨_, rfl, ?_⟩
  intro a hF
  refine sB 4 [(146, .bool true), (147, .bool true), (148, .int .i64 0), (149, .bool false)] hF (by kernel_rfl) fun a hF => ?_
  refine wl (sC (f := 32) (args := #[.int .i64 0, .bool false]) hF (by kernel_rfl) rfl (by decide) (by kernel_rfl) (fun _ => by kernel_rfl) ?_)
  refine enterK 11 Tryd.func32 rfl rfl rfl ?_
  intro a1 hF1 QR54 hR54 hNR54
  refine wp_seq_k fun K55 hK55 => ?_
  refine wp_region_lit ?_
  refine sB 1 [(4, .bool false)] hF1 (by kernel_rfl) fun a1 hF1 => ?_
  refine wpList_nil ?_
  refine hK55 _ _ ?_
  refine wp_seq_k fun K56 hK56 => ?_
  refine wp_region_lit ?_
  refine sB 1 [(5, .int .i64 0)] hF1 (by kernel_rfl) fun a1 hF1 => ?_
  refine wl (eP 6 (v0 := .bool (decide (0 = 0))) (v := .bool true) hF1 (by kernel_rfl) (fun _ => by kernel_rfl) (bT (by omega)) fun a1 hF1 => ?_)
  refine sB 5 [(7, .bool true), (8, .bool false), (9, .bool true), (10, .bool true), (4, .bool true)] hF1 (by kernel_rfl) fun a1 hF1 => ?_
  refine wpList_nil ?_
  refine hK56 _ _ ?_
  refine wp_ret ?_
  refine hR54 _ _ ?_
  refine ret_of hF1 hM (.tmp rfl (.nil)) ⟨_, rfl, ?_⟩
  intro a hF
  refine sB 4 [(151, .bool true), (152, .bool true), (153, .int .i64 0), (154, .bool false)] hF (by kernel_rfl) fun a hF => ?_
  refine wl (sC (f := 32) (args := #[.int .i64 0, .bool false]) hF (by kernel_rfl) rfl (by decide) (by kernel_rfl) (fun _ => by kernel_rfl) ?_)
  refine enterK 11 Tryd.func32 rfl rfl rfl ?_
  intro a1 hF1 QR57 hR57 hNR57
  refine wp_seq_k fun K58 hK58 => ?_
  refine wp_region_lit ?_
  refine sB 1 [(4, .bool false)] hF1 (by kernel_rfl) fun a1 hF1 => ?_
  refine wpList_nil ?_
  refine hK58 _ _ ?_
  refine wp_seq_k fun K59 hK59 => ?_
  refine wp_region_lit ?_
  refine sB 1 [(5, .int .i64 0)] hF1 (by kernel_rfl) fun a1 hF1 => ?_
  refine wl (eP 6 (v0 := .bool (decide (0 = 0))) (v := .bool true) hF1 (by kernel_rfl) (fun _ => by kernel_rfl) (bT (by omega)) fun a1 hF1 => ?_)
  refine sB 5 [(7, .bool true), (8, .bool false), (9, .bool true), (10, .bool true), (4, .bool true)] hF1 (by kernel_rfl) fun a1 hF1 => ?_
  refine wpList_nil ?_
  refine hK59 _ _ ?_
  refine wp_ret ?_
  refine hR57 _ _ ?_
  refine ret_of hF1 hM (.tmp rfl (.nil)) ⟨_, rfl, ?_⟩
  intro a hF
  refine sB 2 [(156, .bool true), (30, .bool true)] hF (by kernel_rfl) fun a hF => ?_
  refine wpList_nil ?_
  refine hK38 _ _ ?_
  refine wp_seq_k fun K60 hK60 => ?_
  refine wp_region_lit ?_
  refine wl (eM 157 (v := .bool true) hF hM (by kernel_rfl) (yld_call (f := 18) (args := #[]) hF (by kernel_rfl) (fun _ => by kernel_rfl) (fun w hM => works_w w (hT.below (Nat.le_refl _) hM.bel))) fun a w hF hM => ?_)
  refine sB 9 [(158, .bool true), (159, .bool true), (160, .bool true), (161, .bool true), (162, .bool true), (163, .bool true), (164, .bool true), (165, .bool true), (166, .bool true)] hF (by kernel_rfl) fun a hF => ?_
  refine wl (eM 167 (v := .int .i64 1048576) hF hM (by kernel_rfl) (Yld.to (yld_call (f := 21) (args := #[.int .i64 1125899906842624, .int .i64 1048576]) hF (by kernel_rfl) (fun _ => by kernel_rfl) (fun w hM => gcd_w 1125899906842624 1048576 w (hT.below (Nat.le_refl _) hM.bel))) (by kernel_rfl)) fun a w hF hM => ?_)
  have := gcV_bd 1125899906842624 1048576
  refine wl (eP 168 (v0 := .bool (decide (1048576 = 1048576))) (v := .bool true) hF (by kernel_rfl) (fun _ => by kernel_rfl) (bT (by omega)) fun a hF => ?_)
  refine sB 2 [(169, .bool true), (170, .bool true)] hF (by kernel_rfl) fun a hF => ?_
  refine wl (eM 171 (v := .int .i64 9) hF hM (by kernel_rfl) (Yld.to (yld_call (f := 21) (args := #[.int .i64 0, .int .i64 (-9)]) hF (by kernel_rfl) (fun _ => by kernel_rfl) (fun w hM => gcd_w 0 (-9) w (hT.below (Nat.le_refl _) hM.bel))) (by kernel_rfl)) fun a w hF hM => ?_)
  have := gcV_bd 0 (-9)
  refine wl (eP 172 (v0 := .bool (decide (9 = 9))) (v := .bool true) hF (by kernel_rfl) (fun _ => by kernel_rfl) (bT (by omega)) fun a hF => ?_)
  refine sB 2 [(173, .bool true), (174, .bool true)] hF (by kernel_rfl) fun a hF => ?_
  refine wl (eM 175 (v := .int .i64 0) hF hM (by kernel_rfl) (Yld.to (yld_call (f := 21) (args := #[.int .i64 1125899906842625, .int .i64 3]) hF (by kernel_rfl) (fun _ => by kernel_rfl) (fun w hM => gcd_w 1125899906842625 3 w (hT.below (Nat.le_refl _) hM.bel))) (by kernel_rfl)) fun a w hF hM => ?_)
  have := gcV_bd 1125899906842625 3
  refine wl (eP 176 (v0 := .bool (decide (0 = 0))) (v := .bool true) hF (by kernel_rfl) (fun _ => by kernel_rfl) (bT (by omega)) fun a hF => ?_)
  refine sB 2 [(177, .bool true), (178, .bool true)] hF (by kernel_rfl) fun a hF => ?_
  refine wl (eM 179 (v := .int .i64 0) hF hM (by kernel_rfl) (Yld.to (yld_call (f := 21) (args := #[.int .i64 (-9223372036854775808), .int .i64 2]) hF (by kernel_rfl) (fun _ => by kernel_rfl) (fun w hM => gcd_w (-9223372036854775808) 2 w (hT.below (Nat.le_refl _) hM.bel))) (by kernel_rfl)) fun a w hF hM => ?_)
  have := gcV_bd (-9223372036854775808) 2
  refine wl (eP 180 (v0 := .bool (decide (0 = 0))) (v := .bool true) hF (by kernel_rfl) (fun _ => by kernel_rfl) (bT (by omega)) fun a hF => ?_)
  refine sB 2 [(181, .bool true), (0, .bool true)] hF (by kernel_rfl) fun a hF => ?_
  refine wpList_nil ?_
  refine hK60 _ _ ?_
  refine wp_ret ?_
  refine hR0 _ _ ?_
  refine ret_of hF hM (.tmp rfl (.nil)) ?_
  exact ⟨rfl, hM.bel⟩

end Go.Proofs.YtjfjcjbjdbjlgaaDoor
