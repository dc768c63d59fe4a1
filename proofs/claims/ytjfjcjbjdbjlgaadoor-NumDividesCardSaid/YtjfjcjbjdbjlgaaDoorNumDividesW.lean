/-
  The walk of NumDivides.
-/
import Derived.Test.YtjfjcjbjdbjlgaaDoorNumE
namespace Go.Proofs.YtjfjcjbjdbjlgaaDoor
open Go.RowKit
set_option linter.unusedVariables false
set_option linter.unusedSimpArgs false

set_option maxRecDepth 100000 in
set_option maxHeartbeats 4000000 in
theorem numDivides_walk (n0 n1 u0 u1 : Int) (w0 : World) (hT : Tab w0) (h : 0 ≤ u0 ∧ u0 < 256 ∧ 0 ≤ u1 ∧ u1 < 256) :
    Calls Tryd.prog 3 #[.agg #[.int .i64 n0, .int .i64 n1], .agg #[.int .u8 u0, .int .u8 u1]] w0 (Ret w0 (.bool true)) := by
  refine enterK 124 Tryd.func3 rfl rfl rfl ?_
  intro a hF Q0 hR0 hN0
  have hM := Mem.start w0
  refine wp_seq_k fun K1 hK1 => ?_
  refine wp_region_lit ?_
  refine wl (eN 2 1 (t := 22) (fun b => .pointer (some ⟨b, 0, none⟩)) #[.int .i64 n0, .int .i64 n1] hF hM (by kernel_rfl) (fun _ => by kernel_rfl) fun bb1 a w hF hM => ?_)
  refine wl (eN 3 2 (t := 23) (fun b => .pointer (some ⟨b, 0, none⟩)) #[.int .u8 u0, .int .u8 u1] hF hM (by kernel_rfl) (fun _ => by kernel_rfl) fun bb2 a w hF hM => ?_)
  refine sB 1 [(4, .bool false)] hF (by kernel_rfl) fun a hF => ?_
  refine wpList_nil ?_
  refine hK1 _ _ ?_
  refine wp_seq_k fun K2 hK2 => ?_
  refine wp_seq_k fun K3 hK3 => ?_
  refine rQ hM (by kernel_rfl) (by kernel_rfl) ?_
  refine eQL 19 1 0 (v := .agg #[.int .i64 n0, .int .i64 n1]) hF (by kernel_rfl) rfl rfl (by kernel_rfl) (by kernel_rfl) fun a hF => ?_
  refine eQ 20 (v0 := .pointer (some ⟨bb1, 0, none⟩)) (v := .pointer (some ⟨bb1, 0, none⟩)) hF (by kernel_rfl) (fun _ => by kernel_rfl) rfl fun a hF => ?_
  refine eQL 21 1 0 (v := .int .i64 n0) hF (by kernel_rfl) rfl rfl (by kernel_rfl) (by kernel_rfl) fun a hF => ?_
  refine eQ 22 (v0 := .pointer (some ⟨bb2, 0, none⟩)) (v := .pointer (some ⟨bb2, 0, none⟩)) hF (by kernel_rfl) (fun _ => by kernel_rfl) rfl fun a hF => ?_
  refine eQL 23 2 0 (v := .int .u8 u0) hF (by kernel_rfl) rfl rfl (by kernel_rfl) (by kernel_rfl) fun a hF => ?_
  refine eQ2 24 (v := .int .i64 (nearV n0 u0)) hF (by kernel_rfl) (yld_call (f := 11) (args := #[.int .i64 n0, .int .u8 u0]) hF (by kernel_rfl) (fun _ => by kernel_rfl) (fun w hM => near_w n0 u0 w (by omega))) fun a hF => ?_
  refine eQ 25 (v0 := .pointer (some ⟨bb1, 1, none⟩)) (v := .pointer (some ⟨bb1, 1, none⟩)) hF (by kernel_rfl) (fun _ => by kernel_rfl) rfl fun a hF => ?_
  refine eQL 26 1 1 (v := .int .i64 n1) hF (by kernel_rfl) rfl rfl (by kernel_rfl) (by kernel_rfl) fun a hF => ?_
  refine eQ 27 (v0 := .pointer (some ⟨bb2, 1, none⟩)) (v := .pointer (some ⟨bb2, 1, none⟩)) hF (by kernel_rfl) (fun _ => by kernel_rfl) rfl fun a hF => ?_
  refine eQL 28 2 1 (v := .int .u8 u1) hF (by kernel_rfl) rfl rfl (by kernel_rfl) (by kernel_rfl) fun a hF => ?_
  refine eQ2 29 (v := .int .i64 (nearV n1 u1)) hF (by kernel_rfl) (yld_call (f := 11) (args := #[.int .i64 n1, .int .u8 u1]) hF (by kernel_rfl) (fun _ => by kernel_rfl) (fun w hM => near_w n1 u1 w (by omega))) fun a hF => ?_
  refine eQ 30 (v0 := .agg #[.int .i64 (nearV n0 u0), .int .i64 (nearV n1 u1)]) (v := .agg #[.int .i64 (nearV n0 u0), .int .i64 (nearV n1 u1)]) hF (by kernel_rfl) (fun _ => by kernel_rfl) rfl fun a hF => ?_
  refine eQ 31 (v0 := .pointer (some ⟨bb1, 0, none⟩)) (v := .pointer (some ⟨bb1, 0, none⟩)) hF (by kernel_rfl) (fun _ => by kernel_rfl) rfl fun a hF => ?_
  refine eQL 32 1 0 (v := .int .i64 n0) hF (by kernel_rfl) rfl rfl (by kernel_rfl) (by kernel_rfl) fun a hF => ?_
  refine eQ 33 (v0 := .pointer (some ⟨bb2, 0, none⟩)) (v := .pointer (some ⟨bb2, 0, none⟩)) hF (by kernel_rfl) (fun _ => by kernel_rfl) rfl fun a hF => ?_
  refine eQL 34 2 0 (v := .int .u8 u0) hF (by kernel_rfl) rfl rfl (by kernel_rfl) (by kernel_rfl) fun a hF => ?_
  refine eQ2 35 (v := .int .i64 (nearV n0 u0)) hF (by kernel_rfl) (yld_call (f := 11) (args := #[.int .i64 n0, .int .u8 u0]) hF (by kernel_rfl) (fun _ => by kernel_rfl) (fun w hM => near_w n0 u0 w (by omega))) fun a hF => ?_
  refine eQ 36 (v0 := .pointer (some ⟨bb1, 1, none⟩)) (v := .pointer (some ⟨bb1, 1, none⟩)) hF (by kernel_rfl) (fun _ => by kernel_rfl) rfl fun a hF => ?_
  refine eQL 37 1 1 (v := .int .i64 n1) hF (by kernel_rfl) rfl rfl (by kernel_rfl) (by kernel_rfl) fun a hF => ?_
  refine eQ 38 (v0 := .int .u64 (IntKind.u64.wrap n1)) (v := .int .u64 (n1 % 18446744073709551616)) hF (by kernel_rfl) (fun _ => by kernel_rfl) (vi (u64_wrap _)) fun a hF => ?_
  refine eQ2 39 (v := .int .u64 (n1 % 18446744073709551616 % 99)) hF (by kernel_rfl) (yld_rem (n1 % 18446744073709551616) 99 hF rfl (by kernel_rfl) (by kernel_rfl) (by kernel_rfl) (by decide) (Int.tmod_eq_emod_of_nonneg (by omega))) fun a hF => ?_
  refine eQ 40 (v0 := .int .i64 (IntKind.i64.wrap (n1 % 18446744073709551616 % 99))) (v := .int .i64 (n1 % 18446744073709551616 % 99)) hF (by kernel_rfl) (fun _ => by kernel_rfl) (vi (IntWalk.i64_in _ (by omega))) fun a hF => ?_
  refine eQ 41 (v0 := .agg #[.int .i64 (nearV n0 u0), .int .i64 (n1 % 18446744073709551616 % 99)]) (v := .agg #[.int .i64 (nearV n0 u0), .int .i64 (n1 % 18446744073709551616 % 99)]) hF (by kernel_rfl) (fun _ => by kernel_rfl) rfl fun a hF => ?_
  refine eQ 42 (v0 := .agg #[.int .i64 n0, .int .i64 n1, .int .i64 (nearV n0 u0), .int .i64 (nearV n1 u1), .int .i64 (nearV n0 u0), .int .i64 (n1 % 18446744073709551616 % 99)]) (v := .agg #[.int .i64 n0, .int .i64 n1, .int .i64 (nearV n0 u0), .int .i64 (nearV n1 u1), .int .i64 (nearV n0 u0), .int .i64 (n1 % 18446744073709551616 % 99)]) hF (by kernel_rfl) (fun _ => by kernel_rfl) rfl fun a hF => ?_
  refine eQ 43 (v0 := .int .i64 0) (v := .int .i64 0) hF (by kernel_rfl) (fun _ => by kernel_rfl) rfl fun a hF => ?_
  refine wpQuiet_nil ?_
  intro w hM
  refine hK3 _ _ ?_
  refine wp_block ?_
  refine wp_loop_k (G := Nat) (fun gg a w => Fr 124 [(43, some (.int .i64 (gg : Int))), (42, some (.agg #[.int .i64 n0, .int .i64 n1, .int .i64 (nearV n0 u0), .int .i64 (nearV n1 u1), .int .i64 (nearV n0 u0), .int .i64 (n1 % 18446744073709551616 % 99)]))] a ∧ Mem w0.heap.size w0 [] w ∧ ((gg : Int) ≤ 3)) (fun gg => 3 - gg) (0) ?_ ?_
  · refine ⟨(((Fr.nil hF).c hF (i := 42) rfl rfl).c hF (i := 43) rfl (vi (show (0 : Int) = (0 : Int) from by omega))), (hM.sub Sub.nil), (show (0 : Int) ≤ 3 from by omega)⟩
  · intro gg a w hI
    intro K4 hK4
    obtain ⟨k43, rfl⟩ : ∃ x, x = gg := ⟨_, rfl⟩
    try dsimp only at hI hK4
    obtain ⟨hF, hM, hz1⟩ := hI
    refine wp_seq_k fun K5 hK5 => ?_
    refine wp_region_lit ?_
    refine sB 1 [(44, .bool (decide ((k43 : Int) < 3)))] hF (by kernel_rfl) fun a hF => ?_
    refine wpList_nil ?_
    refine hK5 _ _ ?_
    refine wp_seq_k fun K6 hK6 => ?_
    by_cases hz2 : (k43 : Int) < 3
    · skip
      replace hF := hF.c hF (i := 44) (v := .bool true) rfl (bT hz2)
      refine cT hF (by kernel_rfl) (by kernel_rfl) ?_
      refine wp_skip ?_
      refine hK6 _ _ ?_
      refine wp_seq_k fun K7 hK7 => ?_
      refine wp_block ?_
      refine wp_seq_k fun K8 hK8 => ?_
      refine wp_region_lit ?_
      obtain ⟨ys2, hl2, hm2, hy2⟩ := idx_agg (P := Tryd.prog) (t := 26) (e := 22) (len := 3) (m := 2) (kd := .i64) [n0, n1, nearV n0 u0, nearV n1 u1, nearV n0 u0, n1 % 18446744073709551616 % 99] ((k43 : Int)) (by kernel_rfl) (by kernel_rfl) (by omega) rfl
      obtain ⟨y2_0, y2_1, rfl⟩ := len2 hl2
      refine wl (eM 45 (v := .agg #[.int .i64 y2_0, .int .i64 y2_1]) hF hM (by kernel_rfl) (yld_index (X := .agg #[.int .i64 n0, .int .i64 n1, .int .i64 (nearV n0 u0), .int .i64 (nearV n1 u1), .int .i64 (nearV n0 u0), .int .i64 (n1 % 18446744073709551616 % 99)]) (I := .int .i64 ((k43 : Int))) hF rfl (by kernel_rfl) (by kernel_rfl) (by kernel_rfl) (fun w => hy2 w)) fun a w hF hM => ?_)
      refine wl (eN 6 3 (t := 22) (fun b => .pointer (some ⟨b, 0, none⟩)) #[.int .i64 0, .int .i64 0] hF hM (by kernel_rfl) (fun _ => by kernel_rfl) fun bb3 a w hF hM => ?_)
      refine wl (sStore (i := 3) (off := 0) (cs' := #[.int .i64 y2_0, .int .i64 y2_1]) hF hM (by kernel_rfl) rfl rfl (by kernel_rfl) (by kernel_rfl) rfl (by kernel_rfl) fun w hM => ?_)
      refine wpList_nil ?_
      refine hK8 _ _ ?_
      refine wp_seq_k fun K9 hK9 => ?_
      refine wp_region_lit ?_
      refine sB 1 [(47, .pointer (some ⟨bb3, 0, none⟩))] hF (by kernel_rfl) fun a hF => ?_
      refine wl (eL 48 3 0 (v := .int .i64 y2_0) hF hM (by kernel_rfl) rfl rfl (by kernel_rfl) (by kernel_rfl) fun a w hF hM => ?_)
      refine sB 1 [(49, .pointer (some ⟨bb3, 1, none⟩))] hF (by kernel_rfl) fun a hF => ?_
      refine wl (eL 50 3 1 (v := .int .i64 y2_1) hF hM (by kernel_rfl) rfl rfl (by kernel_rfl) (by kernel_rfl) fun a w hF hM => ?_)
      refine wl (eM 51 (v := .tuple #[.int .i64 (fdV y2_0 y2_1), .bool (fdB y2_0 y2_1)]) hF hM (by kernel_rfl) (yld_call (f := 12) (args := #[.int .i64 y2_0, .int .i64 y2_1]) hF (by kernel_rfl) (fun _ => by kernel_rfl) (fun w hM => nFloor_w y2_0 y2_1 w)) fun a w hF hM => ?_)
      refine sB 5 [(46, .tuple #[.int .i64 (fdV y2_0 y2_1), .bool (fdB y2_0 y2_1)]), (52, .int .i64 (fdV y2_0 y2_1)), (53, .bool (fdB y2_0 y2_1)), (7, .int .i64 (fdV y2_0 y2_1)), (8, .bool (fdB y2_0 y2_1))] hF (by kernel_rfl) fun a hF => ?_
      refine wpList_nil ?_
      refine hK9 _ _ ?_
      refine wp_seq_k fun K10 hK10 => ?_
      refine wp_region_lit ?_
      refine sB 1 [(55, .pointer (some ⟨bb3, 0, none⟩))] hF (by kernel_rfl) fun a hF => ?_
      refine wl (eL 56 3 0 (v := .int .i64 y2_0) hF hM (by kernel_rfl) rfl rfl (by kernel_rfl) (by kernel_rfl) fun a w hF hM => ?_)
      refine sB 1 [(57, .pointer (some ⟨bb3, 1, none⟩))] hF (by kernel_rfl) fun a hF => ?_
      refine wl (eL 58 3 1 (v := .int .i64 y2_1) hF hM (by kernel_rfl) rfl rfl (by kernel_rfl) (by kernel_rfl) fun a w hF hM => ?_)
      refine wl (eM 59 (v := .tuple #[.int .i64 (fdV y2_0 y2_1), .bool (fdB y2_0 y2_1)]) hF hM (by kernel_rfl) (yld_call (f := 13) (args := #[.int .i64 y2_0, .int .i64 y2_1]) hF (by kernel_rfl) (fun _ => by kernel_rfl) (fun w hM => rFloor_w y2_0 y2_1 w)) fun a w hF hM => ?_)
      refine sB 5 [(54, .tuple #[.int .i64 (fdV y2_0 y2_1), .bool (fdB y2_0 y2_1)]), (60, .int .i64 (fdV y2_0 y2_1)), (61, .bool (fdB y2_0 y2_1)), (9, .int .i64 (fdV y2_0 y2_1)), (10, .bool (fdB y2_0 y2_1))] hF (by kernel_rfl) fun a hF => ?_
      refine wpList_nil ?_
      refine hK10 _ _ ?_
      refine wp_seq_k fun K11 hK11 => ?_
      refine wp_region_lit ?_
      refine sB 1 [(63, .pointer (some ⟨bb3, 0, none⟩))] hF (by kernel_rfl) fun a hF => ?_
      refine wl (eL 64 3 0 (v := .int .i64 y2_0) hF hM (by kernel_rfl) rfl rfl (by kernel_rfl) (by kernel_rfl) fun a w hF hM => ?_)
      refine sB 1 [(65, .pointer (some ⟨bb3, 1, none⟩))] hF (by kernel_rfl) fun a hF => ?_
      refine wl (eL 66 3 1 (v := .int .i64 y2_1) hF hM (by kernel_rfl) rfl rfl (by kernel_rfl) (by kernel_rfl) fun a w hF hM => ?_)
      refine wl (eM 67 (v := .tuple #[.int .i64 (cdV y2_0 y2_1), .bool (fdB y2_0 y2_1)]) hF hM (by kernel_rfl) (yld_call (f := 14) (args := #[.int .i64 y2_0, .int .i64 y2_1]) hF (by kernel_rfl) (fun _ => by kernel_rfl) (fun w hM => nCeil_w y2_0 y2_1 w)) fun a w hF hM => ?_)
      refine sB 5 [(62, .tuple #[.int .i64 (cdV y2_0 y2_1), .bool (fdB y2_0 y2_1)]), (68, .int .i64 (cdV y2_0 y2_1)), (69, .bool (fdB y2_0 y2_1)), (11, .int .i64 (cdV y2_0 y2_1)), (12, .bool (fdB y2_0 y2_1))] hF (by kernel_rfl) fun a hF => ?_
      refine wpList_nil ?_
      refine hK11 _ _ ?_
      refine wp_seq_k fun K12 hK12 => ?_
      refine wp_region_lit ?_
      refine sB 1 [(71, .pointer (some ⟨bb3, 0, none⟩))] hF (by kernel_rfl) fun a hF => ?_
      refine wl (eL 72 3 0 (v := .int .i64 y2_0) hF hM (by kernel_rfl) rfl rfl (by kernel_rfl) (by kernel_rfl) fun a w hF hM => ?_)
      refine sB 1 [(73, .pointer (some ⟨bb3, 1, none⟩))] hF (by kernel_rfl) fun a hF => ?_
      refine wl (eL 74 3 1 (v := .int .i64 y2_1) hF hM (by kernel_rfl) rfl rfl (by kernel_rfl) (by kernel_rfl) fun a w hF hM => ?_)
      refine wl (eM 75 (v := .tuple #[.int .i64 (cdV y2_0 y2_1), .bool (fdB y2_0 y2_1)]) hF hM (by kernel_rfl) (yld_call (f := 15) (args := #[.int .i64 y2_0, .int .i64 y2_1]) hF (by kernel_rfl) (fun _ => by kernel_rfl) (fun w hM => rCeil_w y2_0 y2_1 w)) fun a w hF hM => ?_)
      refine sB 5 [(70, .tuple #[.int .i64 (cdV y2_0 y2_1), .bool (fdB y2_0 y2_1)]), (76, .int .i64 (cdV y2_0 y2_1)), (77, .bool (fdB y2_0 y2_1)), (13, .int .i64 (cdV y2_0 y2_1)), (14, .bool (fdB y2_0 y2_1))] hF (by kernel_rfl) fun a hF => ?_
      refine wpList_nil ?_
      refine hK12 _ _ ?_
      refine wp_seq_k fun K13 hK13 => ?_
      refine wp_region_lit ?_
      refine sB 1 [(79, .pointer (some ⟨bb3, 0, none⟩))] hF (by kernel_rfl) fun a hF => ?_
      refine wl (eL 80 3 0 (v := .int .i64 y2_0) hF hM (by kernel_rfl) rfl rfl (by kernel_rfl) (by kernel_rfl) fun a w hF hM => ?_)
      refine sB 1 [(81, .pointer (some ⟨bb3, 1, none⟩))] hF (by kernel_rfl) fun a hF => ?_
      refine wl (eL 82 3 1 (v := .int .i64 y2_1) hF hM (by kernel_rfl) rfl rfl (by kernel_rfl) (by kernel_rfl) fun a w hF hM => ?_)
      refine wl (eM 83 (v := .tuple #[.int .i64 (moV y2_0 y2_1), .bool (fdB y2_0 y2_1)]) hF hM (by kernel_rfl) (yld_call (f := 16) (args := #[.int .i64 y2_0, .int .i64 y2_1]) hF (by kernel_rfl) (fun _ => by kernel_rfl) (fun w hM => nMod_w y2_0 y2_1 w)) fun a w hF hM => ?_)
      refine sB 5 [(78, .tuple #[.int .i64 (moV y2_0 y2_1), .bool (fdB y2_0 y2_1)]), (84, .int .i64 (moV y2_0 y2_1)), (85, .bool (fdB y2_0 y2_1)), (15, .int .i64 (moV y2_0 y2_1)), (16, .bool (fdB y2_0 y2_1))] hF (by kernel_rfl) fun a hF => ?_
      refine wpList_nil ?_
      refine hK13 _ _ ?_
      refine wp_seq_k fun K14 hK14 => ?_
      refine wp_region_lit ?_
      refine sB 1 [(87, .pointer (some ⟨bb3, 0, none⟩))] hF (by kernel_rfl) fun a hF => ?_
      refine wl (eL 88 3 0 (v := .int .i64 y2_0) hF hM (by kernel_rfl) rfl rfl (by kernel_rfl) (by kernel_rfl) fun a w hF hM => ?_)
      refine sB 1 [(89, .pointer (some ⟨bb3, 1, none⟩))] hF (by kernel_rfl) fun a hF => ?_
      refine wl (eL 90 3 1 (v := .int .i64 y2_1) hF hM (by kernel_rfl) rfl rfl (by kernel_rfl) (by kernel_rfl) fun a w hF hM => ?_)
      refine wl (eM 91 (v := .tuple #[.int .i64 (moV y2_0 y2_1), .bool (fdB y2_0 y2_1)]) hF hM (by kernel_rfl) (yld_call (f := 17) (args := #[.int .i64 y2_0, .int .i64 y2_1]) hF (by kernel_rfl) (fun _ => by kernel_rfl) (fun w hM => rMod_w y2_0 y2_1 w)) fun a w hF hM => ?_)
      refine sB 5 [(86, .tuple #[.int .i64 (moV y2_0 y2_1), .bool (fdB y2_0 y2_1)]), (92, .int .i64 (moV y2_0 y2_1)), (93, .bool (fdB y2_0 y2_1)), (17, .int .i64 (moV y2_0 y2_1)), (18, .bool (fdB y2_0 y2_1))] hF (by kernel_rfl) fun a hF => ?_
      refine wpList_nil ?_
      refine hK14 _ _ ?_
      refine wp_seq_k fun K15 hK15 => ?_
      refine wp_region_lit ?_
      refine sB 2 [(94, .int .i64 (fdV y2_0 y2_1)), (95, .int .i64 (fdV y2_0 y2_1))] hF (by kernel_rfl) fun a hF => ?_
      refine wl (eP 96 (v0 := .bool (!decide (fdV y2_0 y2_1 = fdV y2_0 y2_1))) (v := .bool false) hF (by kernel_rfl) (fun _ => by kernel_rfl) (nT (by omega)) fun a hF => ?_)
      refine sB 3 [(97, .bool false), (98, .bool (fdB y2_0 y2_1)), (99, .bool (fdB y2_0 y2_1))] hF (by kernel_rfl) fun a hF => ?_
      refine wl (eP 100 (v0 := .bool ((fdB y2_0 y2_1) != (fdB y2_0 y2_1))) (v := .bool false) hF (by kernel_rfl) (fun _ => by kernel_rfl) (congrArg Value.bool (by simp)) fun a hF => ?_)
      refine sB 4 [(101, .bool false), (102, .bool false), (103, .int .i64 (cdV y2_0 y2_1)), (104, .int .i64 (cdV y2_0 y2_1))] hF (by kernel_rfl) fun a hF => ?_
      refine wl (eP 105 (v0 := .bool (!decide (cdV y2_0 y2_1 = cdV y2_0 y2_1))) (v := .bool false) hF (by kernel_rfl) (fun _ => by kernel_rfl) (nT (by omega)) fun a hF => ?_)
      refine sB 4 [(106, .bool false), (107, .bool false), (108, .bool (fdB y2_0 y2_1)), (109, .bool (fdB y2_0 y2_1))] hF (by kernel_rfl) fun a hF => ?_
      refine wl (eP 110 (v0 := .bool ((fdB y2_0 y2_1) != (fdB y2_0 y2_1))) (v := .bool false) hF (by kernel_rfl) (fun _ => by kernel_rfl) (congrArg Value.bool (by simp)) fun a hF => ?_)
      refine sB 4 [(111, .bool false), (112, .bool false), (113, .int .i64 (moV y2_0 y2_1)), (114, .int .i64 (moV y2_0 y2_1))] hF (by kernel_rfl) fun a hF => ?_
      refine wl (eP 115 (v0 := .bool (!decide (moV y2_0 y2_1 = moV y2_0 y2_1))) (v := .bool false) hF (by kernel_rfl) (fun _ => by kernel_rfl) (nT (by omega)) fun a hF => ?_)
      refine sB 4 [(116, .bool false), (117, .bool false), (118, .bool (fdB y2_0 y2_1)), (119, .bool (fdB y2_0 y2_1))] hF (by kernel_rfl) fun a hF => ?_
      refine wl (eP 120 (v0 := .bool ((fdB y2_0 y2_1) != (fdB y2_0 y2_1))) (v := .bool false) hF (by kernel_rfl) (fun _ => by kernel_rfl) (congrArg Value.bool (by simp)) fun a hF => ?_)
      refine sB 1 [(121, .bool false)] hF (by kernel_rfl) fun a hF => ?_
      refine wpList_nil ?_
      refine hK15 _ _ ?_
      refine cF hF (by kernel_rfl) (by kernel_rfl) ?_
      refine wp_skip ?_
      refine hK7 _ _ ?_
      refine wp_region_lit ?_
      refine wl (eP 122 (v0 := .int .i64 (IntKind.i64.wrap ((k43 : Int) + 1))) (v := .int .i64 ((k43 : Int) + 1)) hF (by kernel_rfl) (fun _ => by kernel_rfl) (wi (by omega)) fun a hF => ?_)
      refine sB 1 [(43, .int .i64 ((k43 : Int) + 1))] hF (by kernel_rfl) fun a hF => ?_
      refine wpList_nil ?_
      refine hK4 _ _ ⟨(k43 + 1), ⟨(((Fr.nil hF).c hF (i := 42) rfl rfl).c hF (i := 43) rfl (vi (show ((k43 : Int) + 1 : Int) = ((k43 + 1) : Int) from by omega))), (hM.sub Sub.nil), (show ((k43 + 1) : Int) ≤ 3 from by omega)⟩, (show 3 - (k43 + 1) < 3 - k43 from by omega)⟩
    · skip
      replace hF := hF.c hF (i := 44) (v := .bool false) rfl (bF hz2)
      refine cF hF (by kernel_rfl) (by kernel_rfl) ?_
      refine wp_exit ?_
      refine hK2 _ _ ?_
      refine wp_seq_k fun K16 hK16 => ?_
      refine wp_region_lit ?_
      refine wl (eM 123 (v := .bool true) hF hM (by kernel_rfl) (yld_call (f := 18) (args := #[]) hF (by kernel_rfl) (fun _ => by kernel_rfl) (fun w hM => works_w w (hT.below (Nat.le_refl _) hM.bel))) fun a w hF hM => ?_)
      refine sB 1 [(4, .bool true)] hF (by kernel_rfl) fun a hF => ?_
      refine wpList_nil ?_
      refine hK16 _ _ ?_
      refine wp_ret ?_
      refine hR0 _ _ ?_
      refine ret_of hF hM (.tmp rfl (.nil)) ?_
      exact ⟨rfl, hM.bel⟩

end Go.Proofs.YtjfjcjbjdbjlgaaDoor
