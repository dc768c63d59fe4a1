/-
  The walk of NumSums.
-/
import Derived.Test.YtjfjcjbjdbjlgaaDoorNumE
namespace Go.Proofs.YtjfjcjbjdbjlgaaDoor
open Go.RowKit
set_option linter.unusedVariables false
set_option linter.unusedSimpArgs false

set_option maxRecDepth 100000 in
set_option maxHeartbeats 4000000 in
theorem numSums_walk (n0 n1 u0 u1 : Int) (w0 : World) (hT : Tab w0) (h : 0 ≤ u0 ∧ u0 < 256 ∧ 0 ≤ u1 ∧ u1 < 256) :
    Calls Tryd.prog 9 #[.agg #[.int .i64 n0, .int .i64 n1], .agg #[.int .u8 u0, .int .u8 u1]] w0 (Ret w0 (.bool true)) := by
  refine enterK 121 Tryd.func9 rfl rfl rfl ?_
  intro a hF Q0 hR0 hN0
  have hM := Mem.start w0
  refine wp_seq_k fun K1 hK1 => ?_
  refine wp_region_lit ?_
  refine wl (eN 2 1 (t := 22) (fun b => .pointer (some ⟨b, 0, none⟩)) #[.int .i64 n0, .int .i64 n1] hF hM (by kernel_rfl) (fun _ => by kernel_rfl) fun bb1 a w hF hM => ?_)
  refine wl (eN 3 2 (t := 23) (fun b => .pointer (some ⟨b, 0, none⟩)) #[.int .u8 u0, .int .u8 u1] hF hM (by kernel_rfl) (fun _ => by kernel_rfl) fun bb2 a w hF hM => ?_)
  refine sB 1 [(4, .bool false)] hF (by kernel_rfl) fun a hF => ?_
  refine wpList_nil ?_
  refine hK1 _ _ ?_
  refine wp_seq_k fun K2 hK2 => ?_
  refine wp_seq_k fun K3 hK3 => ?_
  refine rQ hM (by kernel_rfl) (by kernel_rfl) ?_
  refine eQL 19 1 0 (v := .agg #[.int .i64 n0, .int .i64 n1]) hF (by kernel_rfl) rfl rfl (by kernel_rfl) (by kernel_rfl) fun a hF => ?_
  refine eQ 20 (v0 := .pointer (some ⟨bb1, 0, none⟩)) (v := .pointer (some ⟨bb1, 0, none⟩)) hF (by kernel_rfl) (fun _ => by kernel_rfl) rfl fun a hF => ?_
  refine eQL 21 1 0 (v := .int .i64 n0) hF (by kernel_rfl) rfl rfl (by kernel_rfl) (by kernel_rfl) fun a hF => ?_
  refine eQ 22 (v0 := .pointer (some ⟨bb2, 0, none⟩)) (v := .pointer (some ⟨bb2, 0, none⟩)) hF (by kernel_rfl) (fun _ => by kernel_rfl) rfl fun a hF => ?_
  refine eQL 23 2 0 (v := .int .u8 u0) hF (by kernel_rfl) rfl rfl (by kernel_rfl) (by kernel_rfl) fun a hF => ?_
  refine eQ2 24 (v := .int .i64 (nearV n0 u0)) hF (by kernel_rfl) (yld_call (f := 11) (args := #[.int .i64 n0, .int .u8 u0]) hF (by kernel_rfl) (fun _ => by kernel_rfl) (fun w hM => near_w n0 u0 w (by omega))) fun a hF => ?_
  refine eQ 25 (v0 := .pointer (some ⟨bb1, 1, none⟩)) (v := .pointer (some ⟨bb1, 1, none⟩)) hF (by kernel_rfl) (fun _ => by kernel_rfl) rfl fun a hF => ?_
  refine eQL 26 1 1 (v := .int .i64 n1) hF (by kernel_rfl) rfl rfl (by kernel_rfl) (by kernel_rfl) fun a hF => ?_
  refine eQ 27 (v0 := .pointer (some ⟨bb2, 1, none⟩)) (v := .pointer (some ⟨bb2, 1, none⟩)) hF (by kernel_rfl) (fun _ => by kernel_rfl) rfl fun a hF => ?_
  refine eQL 28 2 1 (v := .int .u8 u1) hF (by kernel_rfl) rfl rfl (by kernel_rfl) (by kernel_rfl) fun a hF => ?_
  refine eQ2 29 (v := .int .i64 (nearV n1 u1)) hF (by kernel_rfl) (yld_call (f := 11) (args := #[.int .i64 n1, .int .u8 u1]) hF (by kernel_rfl) (fun _ => by kernel_rfl) (fun w hM => near_w n1 u1 w (by omega))) fun a hF => ?_
  refine eQ 30 (v0 := .agg #[.int .i64 (nearV n0 u0), .int .i64 (nearV n1 u1)]) (v := .agg #[.int .i64 (nearV n0 u0), .int .i64 (nearV n1 u1)]) hF (by kernel_rfl) (fun _ => by kernel_rfl) rfl fun a hF => ?_
  refine eQ 31 (v0 := .pointer (some ⟨bb1, 0, none⟩)) (v := .pointer (some ⟨bb1, 0, none⟩)) hF (by kernel_rfl) (fun _ => by kernel_rfl) rfl fun a hF => ?_
  refine eQL 32 1 0 (v := .int .i64 n0) hF (by kernel_rfl) rfl rfl (by kernel_rfl) (by kernel_rfl) fun a hF => ?_
  refine eQ 33 (v0 := .pointer (some ⟨bb2, 0, none⟩)) (v := .pointer (some ⟨bb2, 0, none⟩)) hF (by kernel_rfl) (fun _ => by kernel_rfl) rfl fun a hF => ?_
  refine eQL 34 2 0 (v := .int .u8 u0) hF (by kernel_rfl) rfl rfl (by kernel_rfl) (by kernel_rfl) fun a hF => ?_
  refine eQ2 35 (v := .int .i64 (nearV n0 u0)) hF (by kernel_rfl) (yld_call (f := 11) (args := #[.int .i64 n0, .int .u8 u0]) hF (by kernel_rfl) (fun _ => by kernel_rfl) (fun w hM => near_w n0 u0 w (by omega))) fun a hF => ?_
  refine eQ 36 (v0 := .pointer (some ⟨bb1, 1, none⟩)) (v := .pointer (some ⟨bb1, 1, none⟩)) hF (by kernel_rfl) (fun _ => by kernel_rfl) rfl fun a hF => ?_
  refine eQL 37 1 1 (v := .int .i64 n1) hF (by kernel_rfl) rfl rfl (by kernel_rfl) (by kernel_rfl) fun a hF => ?_
  refine eQ 38 (v0 := .agg #[.int .i64 (nearV n0 u0), .int .i64 n1]) (v := .agg #[.int .i64 (nearV n0 u0), .int .i64 n1]) hF (by kernel_rfl) (fun _ => by kernel_rfl) rfl fun a hF => ?_
  refine eQ 39 (v0 := .agg #[.int .i64 n0, .int .i64 n1, .int .i64 (nearV n0 u0), .int .i64 (nearV n1 u1), .int .i64 (nearV n0 u0), .int .i64 n1]) (v := .agg #[.int .i64 n0, .int .i64 n1, .int .i64 (nearV n0 u0), .int .i64 (nearV n1 u1), .int .i64 (nearV n0 u0), .int .i64 n1]) hF (by kernel_rfl) (fun _ => by kernel_rfl) rfl fun a hF => ?_
  refine eQ 40 (v0 := .int .i64 0) (v := .int .i64 0) hF (by kernel_rfl) (fun _ => by kernel_rfl) rfl fun a hF => ?_
  refine wpQuiet_nil ?_
  intro w hM
  refine hK3 _ _ ?_
  refine wp_block ?_
  refine wp_loop_k (G := Nat) (fun gg a w => Fr 121 [(40, some (.int .i64 (gg : Int))), (39, some (.agg #[.int .i64 n0, .int .i64 n1, .int .i64 (nearV n0 u0), .int .i64 (nearV n1 u1), .int .i64 (nearV n0 u0), .int .i64 n1]))] a ∧ Mem w0.heap.size w0 [] w ∧ ((gg : Int) ≤ 3)) (fun gg => 3 - gg) (0) ?_ ?_
  · refine ⟨(((Fr.nil hF).c hF (i := 39) rfl rfl).c hF (i := 40) rfl (vi (show (0 : Int) = (0 : Int) from by omega))), (hM.sub Sub.nil), (show (0 : Int) ≤ 3 from by omega)⟩
  · intro gg a w hI
    intro K4 hK4
    obtain ⟨k40, rfl⟩ : ∃ x, x = gg := ⟨_, rfl⟩
    try dsimp only at hI hK4
    obtain ⟨hF, hM, hz1⟩ := hI
    refine wp_seq_k fun K5 hK5 => ?_
    refine wp_region_lit ?_
    refine sB 1 [(41, .bool (decide ((k40 : Int) < 3)))] hF (by kernel_rfl) fun a hF => ?_
    refine wpList_nil ?_
    refine hK5 _ _ ?_
    refine wp_seq_k fun K6 hK6 => ?_
    by_cases hz2 : (k40 : Int) < 3
    · skip
      replace hF := hF.c hF (i := 41) (v := .bool true) rfl (bT hz2)
      refine cT hF (by kernel_rfl) (by kernel_rfl) ?_
      refine wp_skip ?_
      refine hK6 _ _ ?_
      refine wp_seq_k fun K7 hK7 => ?_
      refine wp_block ?_
      refine wp_seq_k fun K8 hK8 => ?_
      refine wp_region_lit ?_
      obtain ⟨ys2, hl2, hm2, hy2⟩ := idx_agg (P := Tryd.prog) (t := 26) (e := 22) (len := 3) (m := 2) (kd := .i64) [n0, n1, nearV n0 u0, nearV n1 u1, nearV n0 u0, n1] ((k40 : Int)) (by kernel_rfl) (by kernel_rfl) (by omega) rfl
      obtain ⟨y2_0, y2_1, rfl⟩ := len2 hl2
      refine wl (eM 42 (v := .agg #[.int .i64 y2_0, .int .i64 y2_1]) hF hM (by kernel_rfl) (yld_index (X := .agg #[.int .i64 n0, .int .i64 n1, .int .i64 (nearV n0 u0), .int .i64 (nearV n1 u1), .int .i64 (nearV n0 u0), .int .i64 n1]) (I := .int .i64 ((k40 : Int))) hF rfl (by kernel_rfl) (by kernel_rfl) (by kernel_rfl) (fun w => hy2 w)) fun a w hF hM => ?_)
      refine wl (eN 6 3 (t := 22) (fun b => .pointer (some ⟨b, 0, none⟩)) #[.int .i64 0, .int .i64 0] hF hM (by kernel_rfl) (fun _ => by kernel_rfl) fun bb3 a w hF hM => ?_)
      refine wl (sStore (i := 3) (off := 0) (cs' := #[.int .i64 y2_0, .int .i64 y2_1]) hF hM (by kernel_rfl) rfl rfl (by kernel_rfl) (by kernel_rfl) rfl (by kernel_rfl) fun w hM => ?_)
      refine wpList_nil ?_
      refine hK8 _ _ ?_
      refine wp_seq_k fun K9 hK9 => ?_
      refine wp_region_lit ?_
      refine sB 1 [(44, .pointer (some ⟨bb3, 0, none⟩))] hF (by kernel_rfl) fun a hF => ?_
      refine wl (eL 45 3 0 (v := .int .i64 y2_0) hF hM (by kernel_rfl) rfl rfl (by kernel_rfl) (by kernel_rfl) fun a w hF hM => ?_)
      refine sB 1 [(46, .pointer (some ⟨bb3, 1, none⟩))] hF (by kernel_rfl) fun a hF => ?_
      refine wl (eL 47 3 1 (v := .int .i64 y2_1) hF hM (by kernel_rfl) rfl rfl (by kernel_rfl) (by kernel_rfl) fun a w hF hM => ?_)
      refine wl (eM 48 (v := .tuple #[.int .i64 (suV (y2_0 + y2_1) y2_0 y2_1), .bool (suB (y2_0 + y2_1) y2_0 y2_1)]) hF hM (by kernel_rfl) (yld_call (f := 26) (args := #[.int .i64 y2_0, .int .i64 y2_1]) hF (by kernel_rfl) (fun _ => by kernel_rfl) (fun w hM => nAdd_w y2_0 y2_1 w)) fun a w hF hM => ?_)
      refine sB 5 [(43, .tuple #[.int .i64 (suV (y2_0 + y2_1) y2_0 y2_1), .bool (suB (y2_0 + y2_1) y2_0 y2_1)]), (49, .int .i64 (suV (y2_0 + y2_1) y2_0 y2_1)), (50, .bool (suB (y2_0 + y2_1) y2_0 y2_1)), (7, .int .i64 (suV (y2_0 + y2_1) y2_0 y2_1)), (8, .bool (suB (y2_0 + y2_1) y2_0 y2_1))] hF (by kernel_rfl) fun a hF => ?_
      refine wpList_nil ?_
      refine hK9 _ _ ?_
      refine wp_seq_k fun K10 hK10 => ?_
      refine wp_region_lit ?_
      refine sB 1 [(52, .pointer (some ⟨bb3, 0, none⟩))] hF (by kernel_rfl) fun a hF => ?_
      refine wl (eL 53 3 0 (v := .int .i64 y2_0) hF hM (by kernel_rfl) rfl rfl (by kernel_rfl) (by kernel_rfl) fun a w hF hM => ?_)
      refine sB 1 [(54, .pointer (some ⟨bb3, 1, none⟩))] hF (by kernel_rfl) fun a hF => ?_
      refine wl (eL 55 3 1 (v := .int .i64 y2_1) hF hM (by kernel_rfl) rfl rfl (by kernel_rfl) (by kernel_rfl) fun a w hF hM => ?_)
      refine wl (eM 56 (v := .tuple #[.int .i64 (suV (y2_0 + y2_1) y2_0 y2_1), .bool (suB (y2_0 + y2_1) y2_0 y2_1)]) hF hM (by kernel_rfl) (yld_call (f := 27) (args := #[.int .i64 y2_0, .int .i64 y2_1]) hF (by kernel_rfl) (fun _ => by kernel_rfl) (fun w hM => rAdd_w y2_0 y2_1 w)) fun a w hF hM => ?_)
      refine sB 5 [(51, .tuple #[.int .i64 (suV (y2_0 + y2_1) y2_0 y2_1), .bool (suB (y2_0 + y2_1) y2_0 y2_1)]), (57, .int .i64 (suV (y2_0 + y2_1) y2_0 y2_1)), (58, .bool (suB (y2_0 + y2_1) y2_0 y2_1)), (9, .int .i64 (suV (y2_0 + y2_1) y2_0 y2_1)), (10, .bool (suB (y2_0 + y2_1) y2_0 y2_1))] hF (by kernel_rfl) fun a hF => ?_
      refine wpList_nil ?_
      refine hK10 _ _ ?_
      refine wp_seq_k fun K11 hK11 => ?_
      refine wp_region_lit ?_
      refine sB 1 [(60, .pointer (some ⟨bb3, 0, none⟩))] hF (by kernel_rfl) fun a hF => ?_
      refine wl (eL 61 3 0 (v := .int .i64 y2_0) hF hM (by kernel_rfl) rfl rfl (by kernel_rfl) (by kernel_rfl) fun a w hF hM => ?_)
      refine sB 1 [(62, .pointer (some ⟨bb3, 1, none⟩))] hF (by kernel_rfl) fun a hF => ?_
      refine wl (eL 63 3 1 (v := .int .i64 y2_1) hF hM (by kernel_rfl) rfl rfl (by kernel_rfl) (by kernel_rfl) fun a w hF hM => ?_)
      refine wl (eM 64 (v := .tuple #[.int .i64 (suV (y2_0 - y2_1) y2_0 y2_1), .bool (suB (y2_0 - y2_1) y2_0 y2_1)]) hF hM (by kernel_rfl) (yld_call (f := 28) (args := #[.int .i64 y2_0, .int .i64 y2_1]) hF (by kernel_rfl) (fun _ => by kernel_rfl) (fun w hM => nSub_w y2_0 y2_1 w)) fun a w hF hM => ?_)
      refine sB 5 [(59, .tuple #[.int .i64 (suV (y2_0 - y2_1) y2_0 y2_1), .bool (suB (y2_0 - y2_1) y2_0 y2_1)]), (65, .int .i64 (suV (y2_0 - y2_1) y2_0 y2_1)), (66, .bool (suB (y2_0 - y2_1) y2_0 y2_1)), (11, .int .i64 (suV (y2_0 - y2_1) y2_0 y2_1)), (12, .bool (suB (y2_0 - y2_1) y2_0 y2_1))] hF (by kernel_rfl) fun a hF => ?_
      refine wpList_nil ?_
      refine hK11 _ _ ?_
      refine wp_seq_k fun K12 hK12 => ?_
      refine wp_region_lit ?_
      refine sB 1 [(68, .pointer (some ⟨bb3, 0, none⟩))] hF (by kernel_rfl) fun a hF => ?_
      refine wl (eL 69 3 0 (v := .int .i64 y2_0) hF hM (by kernel_rfl) rfl rfl (by kernel_rfl) (by kernel_rfl) fun a w hF hM => ?_)
      refine sB 1 [(70, .pointer (some ⟨bb3, 1, none⟩))] hF (by kernel_rfl) fun a hF => ?_
      refine wl (eL 71 3 1 (v := .int .i64 y2_1) hF hM (by kernel_rfl) rfl rfl (by kernel_rfl) (by kernel_rfl) fun a w hF hM => ?_)
      refine wl (eM 72 (v := .tuple #[.int .i64 (suV (y2_0 - y2_1) y2_0 y2_1), .bool (suB (y2_0 - y2_1) y2_0 y2_1)]) hF hM (by kernel_rfl) (yld_call (f := 29) (args := #[.int .i64 y2_0, .int .i64 y2_1]) hF (by kernel_rfl) (fun _ => by kernel_rfl) (fun w hM => rSub_w y2_0 y2_1 w)) fun a w hF hM => ?_)
      refine sB 5 [(67, .tuple #[.int .i64 (suV (y2_0 - y2_1) y2_0 y2_1), .bool (suB (y2_0 - y2_1) y2_0 y2_1)]), (73, .int .i64 (suV (y2_0 - y2_1) y2_0 y2_1)), (74, .bool (suB (y2_0 - y2_1) y2_0 y2_1)), (13, .int .i64 (suV (y2_0 - y2_1) y2_0 y2_1)), (14, .bool (suB (y2_0 - y2_1) y2_0 y2_1))] hF (by kernel_rfl) fun a hF => ?_
      refine wpList_nil ?_
      refine hK12 _ _ ?_
      refine wp_seq_k fun K13 hK13 => ?_
      refine wp_region_lit ?_
      refine sB 1 [(76, .pointer (some ⟨bb3, 0, none⟩))] hF (by kernel_rfl) fun a hF => ?_
      refine wl (eL 77 3 0 (v := .int .i64 y2_0) hF hM (by kernel_rfl) rfl rfl (by kernel_rfl) (by kernel_rfl) fun a w hF hM => ?_)
      refine sB 1 [(78, .pointer (some ⟨bb3, 1, none⟩))] hF (by kernel_rfl) fun a hF => ?_
      refine wl (eL 79 3 1 (v := .int .i64 y2_1) hF hM (by kernel_rfl) rfl rfl (by kernel_rfl) (by kernel_rfl) fun a w hF hM => ?_)
      refine wl (eM 80 (v := .tuple #[.int .i64 (mdV y2_0 y2_1 1), .bool (mdB y2_0 y2_1 1)]) hF hM (by kernel_rfl) (yld_call (f := 30) (args := #[.int .i64 y2_0, .int .i64 y2_1]) hF (by kernel_rfl) (fun _ => by kernel_rfl) (fun w hM => nMul_w y2_0 y2_1 w)) fun a w hF hM => ?_)
      refine sB 5 [(75, .tuple #[.int .i64 (mdV y2_0 y2_1 1), .bool (mdB y2_0 y2_1 1)]), (81, .int .i64 (mdV y2_0 y2_1 1)), (82, .bool (mdB y2_0 y2_1 1)), (15, .int .i64 (mdV y2_0 y2_1 1)), (16, .bool (mdB y2_0 y2_1 1))] hF (by kernel_rfl) fun a hF => ?_
      refine wpList_nil ?_
      refine hK13 _ _ ?_
      refine wp_seq_k fun K14 hK14 => ?_
      refine wp_region_lit ?_
      refine sB 1 [(84, .pointer (some ⟨bb3, 0, none⟩))] hF (by kernel_rfl) fun a hF => ?_
      refine wl (eL 85 3 0 (v := .int .i64 y2_0) hF hM (by kernel_rfl) rfl rfl (by kernel_rfl) (by kernel_rfl) fun a w hF hM => ?_)
      refine sB 1 [(86, .pointer (some ⟨bb3, 1, none⟩))] hF (by kernel_rfl) fun a hF => ?_
      refine wl (eL 87 3 1 (v := .int .i64 y2_1) hF hM (by kernel_rfl) rfl rfl (by kernel_rfl) (by kernel_rfl) fun a w hF hM => ?_)
      refine wl (eM 88 (v := .tuple #[.int .i64 (mdV y2_0 y2_1 1), .bool (mdB y2_0 y2_1 1)]) hF hM (by kernel_rfl) (yld_call (f := 31) (args := #[.int .i64 y2_0, .int .i64 y2_1]) hF (by kernel_rfl) (fun _ => by kernel_rfl) (fun w hM => rMul_w y2_0 y2_1 w)) fun a w hF hM => ?_)
      refine sB 5 [(83, .tuple #[.int .i64 (mdV y2_0 y2_1 1), .bool (mdB y2_0 y2_1 1)]), (89, .int .i64 (mdV y2_0 y2_1 1)), (90, .bool (mdB y2_0 y2_1 1)), (17, .int .i64 (mdV y2_0 y2_1 1)), (18, .bool (mdB y2_0 y2_1 1))] hF (by kernel_rfl) fun a hF => ?_
      refine wpList_nil ?_
      refine hK14 _ _ ?_
      refine wp_seq_k fun K15 hK15 => ?_
      refine wp_region_lit ?_
      refine sB 2 [(91, .int .i64 (suV (y2_0 + y2_1) y2_0 y2_1)), (92, .int .i64 (suV (y2_0 + y2_1) y2_0 y2_1))] hF (by kernel_rfl) fun a hF => ?_
      refine wl (eP 93 (v0 := .bool (!decide (suV (y2_0 + y2_1) y2_0 y2_1 = suV (y2_0 + y2_1) y2_0 y2_1))) (v := .bool false) hF (by kernel_rfl) (fun _ => by kernel_rfl) (nT (by omega)) fun a hF => ?_)
      refine sB 3 [(94, .bool false), (95, .bool (suB (y2_0 + y2_1) y2_0 y2_1)), (96, .bool (suB (y2_0 + y2_1) y2_0 y2_1))] hF (by kernel_rfl) fun a hF => ?_
      refine wl (eP 97 (v0 := .bool ((suB (y2_0 + y2_1) y2_0 y2_1) != (suB (y2_0 + y2_1) y2_0 y2_1))) (v := .bool false) hF (by kernel_rfl) (fun _ => by kernel_rfl) (congrArg Value.bool (by simp)) fun a hF => ?_)
      refine sB 4 [(98, .bool false), (99, .bool false), (100, .int .i64 (suV (y2_0 - y2_1) y2_0 y2_1)), (101, .int .i64 (suV (y2_0 - y2_1) y2_0 y2_1))] hF (by kernel_rfl) fun a hF => ?_
      refine wl (eP 102 (v0 := .bool (!decide (suV (y2_0 - y2_1) y2_0 y2_1 = suV (y2_0 - y2_1) y2_0 y2_1))) (v := .bool false) hF (by kernel_rfl) (fun _ => by kernel_rfl) (nT (by omega)) fun a hF => ?_)
      refine sB 4 [(103, .bool false), (104, .bool false), (105, .bool (suB (y2_0 - y2_1) y2_0 y2_1)), (106, .bool (suB (y2_0 - y2_1) y2_0 y2_1))] hF (by kernel_rfl) fun a hF => ?_
      refine wl (eP 107 (v0 := .bool ((suB (y2_0 - y2_1) y2_0 y2_1) != (suB (y2_0 - y2_1) y2_0 y2_1))) (v := .bool false) hF (by kernel_rfl) (fun _ => by kernel_rfl) (congrArg Value.bool (by simp)) fun a hF => ?_)
      refine sB 4 [(108, .bool false), (109, .bool false), (110, .int .i64 (mdV y2_0 y2_1 1)), (111, .int .i64 (mdV y2_0 y2_1 1))] hF (by kernel_rfl) fun a hF => ?_
      refine wl (eP 112 (v0 := .bool (!decide (mdV y2_0 y2_1 1 = mdV y2_0 y2_1 1))) (v := .bool false) hF (by kernel_rfl) (fun _ => by kernel_rfl) (nT (by omega)) fun a hF => ?_)
      refine sB 4 [(113, .bool false), (114, .bool false), (115, .bool (mdB y2_0 y2_1 1)), (116, .bool (mdB y2_0 y2_1 1))] hF (by kernel_rfl) fun a hF => ?_
      refine wl (eP 117 (v0 := .bool ((mdB y2_0 y2_1 1) != (mdB y2_0 y2_1 1))) (v := .bool false) hF (by kernel_rfl) (fun _ => by kernel_rfl) (congrArg Value.bool (by simp)) fun a hF => ?_)
      refine sB 1 [(118, .bool false)] hF (by kernel_rfl) fun a hF => ?_
      refine wpList_nil ?_
      refine hK15 _ _ ?_
      refine cF hF (by kernel_rfl) (by kernel_rfl) ?_
      refine wp_skip ?_
      refine hK7 _ _ ?_
      refine wp_region_lit ?_
      refine wl (eP 119 (v0 := .int .i64 (IntKind.i64.wrap ((k40 : Int) + 1))) (v := .int .i64 ((k40 : Int) + 1)) hF (by kernel_rfl) (fun _ => by kernel_rfl) (wi (by omega)) fun a hF => ?_)
      refine sB 1 [(40, .int .i64 ((k40 : Int) + 1))] hF (by kernel_rfl) fun a hF => ?_
      refine wpList_nil ?_
      refine hK4 _ _ ⟨(k40 + 1), ⟨(((Fr.nil hF).c hF (i := 39) rfl rfl).c hF (i := 40) rfl (vi (show ((k40 : Int) + 1 : Int) = ((k40 + 1) : Int) from by omega))), (hM.sub Sub.nil), (show ((k40 + 1) : Int) ≤ 3 from by omega)⟩, (show 3 - (k40 + 1) < 3 - k40 from by omega)⟩
    · skip
      replace hF := hF.c hF (i := 41) (v := .bool false) rfl (bF hz2)
      refine cF hF (by kernel_rfl) (by kernel_rfl) ?_
      refine wp_exit ?_
      refine hK2 _ _ ?_
      refine wp_seq_k fun K16 hK16 => ?_
      refine wp_region_lit ?_
      refine wl (eM 120 (v := .bool true) hF hM (by kernel_rfl) (yld_call (f := 18) (args := #[]) hF (by kernel_rfl) (fun _ => by kernel_rfl) (fun w hM => works_w w (hT.below (Nat.le_refl _) hM.bel))) fun a w hF hM => ?_)
      refine sB 1 [(4, .bool true)] hF (by kernel_rfl) fun a hF => ?_
      refine wpList_nil ?_
      refine hK16 _ _ ?_
      refine wp_ret ?_
      refine hR0 _ _ ?_
      refine ret_of hF hM (.tmp rfl (.nil)) ?_
      exact ⟨rfl, hM.bel⟩

end Go.Proofs.YtjfjcjbjdbjlgaaDoor
