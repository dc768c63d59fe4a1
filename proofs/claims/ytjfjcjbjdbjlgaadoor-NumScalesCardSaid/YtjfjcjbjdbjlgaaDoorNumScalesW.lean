/-
  The walk of NumScales.
-/
import Derived.Test.YtjfjcjbjdbjlgaaDoorNumE
namespace Go.Proofs.YtjfjcjbjdbjlgaaDoor
open Go.RowKit
set_option linter.unusedVariables false
set_option linter.unusedSimpArgs false

set_option maxRecDepth 100000 in
set_option maxHeartbeats 4000000 in
theorem numScales_walk (n0 n1 n2 u0 u1 u2 : Int) (w0 : World) (hT : Tab w0) (h : 0 ≤ u0 ∧ u0 < 256 ∧ 0 ≤ u1 ∧ u1 < 256 ∧ 0 ≤ u2 ∧ u2 < 256) :
    Calls Tryd.prog 4 #[.agg #[.int .i64 n0, .int .i64 n1, .int .i64 n2], .agg #[.int .u8 u0, .int .u8 u1, .int .u8 u2]] w0 (Ret w0 (.bool true)) := by
  refine enterK 75 Tryd.func4 rfl rfl rfl ?_
  intro a hF Q0 hR0 hN0
  have hM := Mem.start w0
  refine wp_seq_k fun K1 hK1 => ?_
  refine wp_region_lit ?_
  refine wl (eN 2 1 (t := 31) (fun b => .pointer (some ⟨b, 0, none⟩)) #[.int .i64 n0, .int .i64 n1, .int .i64 n2] hF hM (by kernel_rfl) (fun _ => by kernel_rfl) fun bb1 a w hF hM => ?_)
  refine wl (eN 3 2 (t := 32) (fun b => .pointer (some ⟨b, 0, none⟩)) #[.int .u8 u0, .int .u8 u1, .int .u8 u2] hF hM (by kernel_rfl) (fun _ => by kernel_rfl) fun bb2 a w hF hM => ?_)
  refine sB 1 [(4, .bool false)] hF (by kernel_rfl) fun a hF => ?_
  refine wpList_nil ?_
  refine hK1 _ _ ?_
  refine wp_seq_k fun K2 hK2 => ?_
  refine wp_seq_k fun K3 hK3 => ?_
  refine rQ hM (by kernel_rfl) (by kernel_rfl) ?_
  refine eQL 11 1 0 (v := .agg #[.int .i64 n0, .int .i64 n1, .int .i64 n2]) hF (by kernel_rfl) rfl rfl (by kernel_rfl) (by kernel_rfl) fun a hF => ?_
  refine eQ 12 (v0 := .pointer (some ⟨bb1, 0, none⟩)) (v := .pointer (some ⟨bb1, 0, none⟩)) hF (by kernel_rfl) (fun _ => by kernel_rfl) rfl fun a hF => ?_
  refine eQL 13 1 0 (v := .int .i64 n0) hF (by kernel_rfl) rfl rfl (by kernel_rfl) (by kernel_rfl) fun a hF => ?_
  refine eQ 14 (v0 := .pointer (some ⟨bb2, 0, none⟩)) (v := .pointer (some ⟨bb2, 0, none⟩)) hF (by kernel_rfl) (fun _ => by kernel_rfl) rfl fun a hF => ?_
  refine eQL 15 2 0 (v := .int .u8 u0) hF (by kernel_rfl) rfl rfl (by kernel_rfl) (by kernel_rfl) fun a hF => ?_
  refine eQ2 16 (v := .int .i64 (nearV n0 u0)) hF (by kernel_rfl) (yld_call (f := 11) (args := #[.int .i64 n0, .int .u8 u0]) hF (by kernel_rfl) (fun _ => by kernel_rfl) (fun w hM => near_w n0 u0 w (by omega))) fun a hF => ?_
  refine eQ 17 (v0 := .pointer (some ⟨bb1, 1, none⟩)) (v := .pointer (some ⟨bb1, 1, none⟩)) hF (by kernel_rfl) (fun _ => by kernel_rfl) rfl fun a hF => ?_
  refine eQL 18 1 1 (v := .int .i64 n1) hF (by kernel_rfl) rfl rfl (by kernel_rfl) (by kernel_rfl) fun a hF => ?_
  refine eQ 19 (v0 := .pointer (some ⟨bb2, 1, none⟩)) (v := .pointer (some ⟨bb2, 1, none⟩)) hF (by kernel_rfl) (fun _ => by kernel_rfl) rfl fun a hF => ?_
  refine eQL 20 2 1 (v := .int .u8 u1) hF (by kernel_rfl) rfl rfl (by kernel_rfl) (by kernel_rfl) fun a hF => ?_
  refine eQ2 21 (v := .int .i64 (nearV n1 u1)) hF (by kernel_rfl) (yld_call (f := 11) (args := #[.int .i64 n1, .int .u8 u1]) hF (by kernel_rfl) (fun _ => by kernel_rfl) (fun w hM => near_w n1 u1 w (by omega))) fun a hF => ?_
  refine eQ 22 (v0 := .pointer (some ⟨bb1, 2, none⟩)) (v := .pointer (some ⟨bb1, 2, none⟩)) hF (by kernel_rfl) (fun _ => by kernel_rfl) rfl fun a hF => ?_
  refine eQL 23 1 2 (v := .int .i64 n2) hF (by kernel_rfl) rfl rfl (by kernel_rfl) (by kernel_rfl) fun a hF => ?_
  refine eQ 24 (v0 := .pointer (some ⟨bb2, 2, none⟩)) (v := .pointer (some ⟨bb2, 2, none⟩)) hF (by kernel_rfl) (fun _ => by kernel_rfl) rfl fun a hF => ?_
  refine eQL 25 2 2 (v := .int .u8 u2) hF (by kernel_rfl) rfl rfl (by kernel_rfl) (by kernel_rfl) fun a hF => ?_
  refine eQ2 26 (v := .int .i64 (nearV n2 u2)) hF (by kernel_rfl) (yld_call (f := 11) (args := #[.int .i64 n2, .int .u8 u2]) hF (by kernel_rfl) (fun _ => by kernel_rfl) (fun w hM => near_w n2 u2 w (by omega))) fun a hF => ?_
  refine eQ 27 (v0 := .agg #[.int .i64 (nearV n0 u0), .int .i64 (nearV n1 u1), .int .i64 (nearV n2 u2)]) (v := .agg #[.int .i64 (nearV n0 u0), .int .i64 (nearV n1 u1), .int .i64 (nearV n2 u2)]) hF (by kernel_rfl) (fun _ => by kernel_rfl) rfl fun a hF => ?_
  refine eQ 28 (v0 := .pointer (some ⟨bb1, 0, none⟩)) (v := .pointer (some ⟨bb1, 0, none⟩)) hF (by kernel_rfl) (fun _ => by kernel_rfl) rfl fun a hF => ?_
  refine eQL 29 1 0 (v := .int .i64 n0) hF (by kernel_rfl) rfl rfl (by kernel_rfl) (by kernel_rfl) fun a hF => ?_
  refine eQ2 30 (v := .int .i64 (nearV n0 5)) hF (by kernel_rfl) (yld_call (f := 11) (args := #[.int .i64 n0, .int .u8 5]) hF (by kernel_rfl) (fun _ => by kernel_rfl) (fun w hM => near_w n0 5 w (by omega))) fun a hF => ?_
  refine eQ 31 (v0 := .pointer (some ⟨bb1, 1, none⟩)) (v := .pointer (some ⟨bb1, 1, none⟩)) hF (by kernel_rfl) (fun _ => by kernel_rfl) rfl fun a hF => ?_
  refine eQL 32 1 1 (v := .int .i64 n1) hF (by kernel_rfl) rfl rfl (by kernel_rfl) (by kernel_rfl) fun a hF => ?_
  refine eQ2 33 (v := .int .i64 (nearV n1 5)) hF (by kernel_rfl) (yld_call (f := 11) (args := #[.int .i64 n1, .int .u8 5]) hF (by kernel_rfl) (fun _ => by kernel_rfl) (fun w hM => near_w n1 5 w (by omega))) fun a hF => ?_
  refine eQ 34 (v0 := .pointer (some ⟨bb1, 2, none⟩)) (v := .pointer (some ⟨bb1, 2, none⟩)) hF (by kernel_rfl) (fun _ => by kernel_rfl) rfl fun a hF => ?_
  refine eQL 35 1 2 (v := .int .i64 n2) hF (by kernel_rfl) rfl rfl (by kernel_rfl) (by kernel_rfl) fun a hF => ?_
  refine eQ 36 (v0 := .int .u64 (IntKind.u64.wrap n2)) (v := .int .u64 (n2 % 18446744073709551616)) hF (by kernel_rfl) (fun _ => by kernel_rfl) (vi (u64_wrap _)) fun a hF => ?_
  refine eQ2 37 (v := .int .u64 (n2 % 18446744073709551616 % 1125899906842624)) hF (by kernel_rfl) (yld_rem (n2 % 18446744073709551616) 1125899906842624 hF rfl (by kernel_rfl) (by kernel_rfl) (by kernel_rfl) (by decide) (Int.tmod_eq_emod_of_nonneg (by omega))) fun a hF => ?_
  refine eQ 38 (v0 := .int .i64 (IntKind.i64.wrap (n2 % 18446744073709551616 % 1125899906842624))) (v := .int .i64 (n2 % 18446744073709551616 % 1125899906842624)) hF (by kernel_rfl) (fun _ => by kernel_rfl) (vi (IntWalk.i64_in _ (by omega))) fun a hF => ?_
  refine eQ 39 (v0 := .int .i64 (IntKind.i64.wrap (1 + n2 % 18446744073709551616 % 1125899906842624))) (v := .int .i64 (1 + n2 % 18446744073709551616 % 1125899906842624)) hF (by kernel_rfl) (fun _ => by kernel_rfl) (wi (by omega)) fun a hF => ?_
  refine eQ 40 (v0 := .agg #[.int .i64 (nearV n0 5), .int .i64 (nearV n1 5), .int .i64 (1 + n2 % 18446744073709551616 % 1125899906842624)]) (v := .agg #[.int .i64 (nearV n0 5), .int .i64 (nearV n1 5), .int .i64 (1 + n2 % 18446744073709551616 % 1125899906842624)]) hF (by kernel_rfl) (fun _ => by kernel_rfl) rfl fun a hF => ?_
  refine eQ 41 (v0 := .agg #[.int .i64 n0, .int .i64 n1, .int .i64 n2, .int .i64 (nearV n0 u0), .int .i64 (nearV n1 u1), .int .i64 (nearV n2 u2), .int .i64 (nearV n0 5), .int .i64 (nearV n1 5), .int .i64 (1 + n2 % 18446744073709551616 % 1125899906842624)]) (v := .agg #[.int .i64 n0, .int .i64 n1, .int .i64 n2, .int .i64 (nearV n0 u0), .int .i64 (nearV n1 u1), .int .i64 (nearV n2 u2), .int .i64 (nearV n0 5), .int .i64 (nearV n1 5), .int .i64 (1 + n2 % 18446744073709551616 % 1125899906842624)]) hF (by kernel_rfl) (fun _ => by kernel_rfl) rfl fun a hF => ?_
  refine eQ 42 (v0 := .int .i64 0) (v := .int .i64 0) hF (by kernel_rfl) (fun _ => by kernel_rfl) rfl fun a hF => ?_
  refine wpQuiet_nil ?_
  intro w hM
  refine hK3 _ _ ?_
  refine wp_block ?_
  refine wp_loop_k (G := Nat) (fun gg a w => Fr 75 [(42, some (.int .i64 (gg : Int))), (41, some (.agg #[.int .i64 n0, .int .i64 n1, .int .i64 n2, .int .i64 (nearV n0 u0), .int .i64 (nearV n1 u1), .int .i64 (nearV n2 u2), .int .i64 (nearV n0 5), .int .i64 (nearV n1 5), .int .i64 (1 + n2 % 18446744073709551616 % 1125899906842624)]))] a ∧ Mem w0.heap.size w0 [] w ∧ ((gg : Int) ≤ 3)) (fun gg => 3 - gg) (0) ?_ ?_
  · refine ⟨(((Fr.nil hF).c hF (i := 41) rfl rfl).c hF (i := 42) rfl (vi (show (0 : Int) = (0 : Int) from by omega))), (hM.sub Sub.nil), (show (0 : Int) ≤ 3 from by omega)⟩
  · intro gg a w hI
    intro K4 hK4
    obtain ⟨k42, rfl⟩ : ∃ x, x = gg := ⟨_, rfl⟩
    try dsimp only at hI hK4
    obtain ⟨hF, hM, hz1⟩ := hI
    refine wp_seq_k fun K5 hK5 => ?_
    refine wp_region_lit ?_
    refine sB 1 [(43, .bool (decide ((k42 : Int) < 3)))] hF (by kernel_rfl) fun a hF => ?_
    refine wpList_nil ?_
    refine hK5 _ _ ?_
    refine wp_seq_k fun K6 hK6 => ?_
    by_cases hz2 : (k42 : Int) < 3
    · skip
      replace hF := hF.c hF (i := 43) (v := .bool true) rfl (bT hz2)
      refine cT hF (by kernel_rfl) (by kernel_rfl) ?_
      refine wp_skip ?_
      refine hK6 _ _ ?_
      refine wp_seq_k fun K7 hK7 => ?_
      refine wp_block ?_
      refine wp_seq_k fun K8 hK8 => ?_
      refine wp_region_lit ?_
      obtain ⟨ys2, hl2, hm2, hy2⟩ := idx_agg (P := Tryd.prog) (t := 33) (e := 31) (len := 3) (m := 3) (kd := .i64) [n0, n1, n2, nearV n0 u0, nearV n1 u1, nearV n2 u2, nearV n0 5, nearV n1 5, 1 + n2 % 18446744073709551616 % 1125899906842624] ((k42 : Int)) (by kernel_rfl) (by kernel_rfl) (by omega) rfl
      obtain ⟨y2_0, y2_1, y2_2, rfl⟩ := len3 hl2
      refine wl (eM 44 (v := .agg #[.int .i64 y2_0, .int .i64 y2_1, .int .i64 y2_2]) hF hM (by kernel_rfl) (yld_index (X := .agg #[.int .i64 n0, .int .i64 n1, .int .i64 n2, .int .i64 (nearV n0 u0), .int .i64 (nearV n1 u1), .int .i64 (nearV n2 u2), .int .i64 (nearV n0 5), .int .i64 (nearV n1 5), .int .i64 (1 + n2 % 18446744073709551616 % 1125899906842624)]) (I := .int .i64 ((k42 : Int))) hF rfl (by kernel_rfl) (by kernel_rfl) (by kernel_rfl) (fun w => hy2 w)) fun a w hF hM => ?_)
      refine wl (eN 6 3 (t := 31) (fun b => .pointer (some ⟨b, 0, none⟩)) #[.int .i64 0, .int .i64 0, .int .i64 0] hF hM (by kernel_rfl) (fun _ => by kernel_rfl) fun bb3 a w hF hM => ?_)
      refine wl (sStore (i := 3) (off := 0) (cs' := #[.int .i64 y2_0, .int .i64 y2_1, .int .i64 y2_2]) hF hM (by kernel_rfl) rfl rfl (by kernel_rfl) (by kernel_rfl) rfl (by kernel_rfl) fun w hM => ?_)
      refine wpList_nil ?_
      refine hK8 _ _ ?_
      refine wp_seq_k fun K9 hK9 => ?_
      refine wp_region_lit ?_
      refine sB 1 [(46, .pointer (some ⟨bb3, 0, none⟩))] hF (by kernel_rfl) fun a hF => ?_
      refine wl (eL 47 3 0 (v := .int .i64 y2_0) hF hM (by kernel_rfl) rfl rfl (by kernel_rfl) (by kernel_rfl) fun a w hF hM => ?_)
      refine sB 1 [(48, .pointer (some ⟨bb3, 1, none⟩))] hF (by kernel_rfl) fun a hF => ?_
      refine wl (eL 49 3 1 (v := .int .i64 y2_1) hF hM (by kernel_rfl) rfl rfl (by kernel_rfl) (by kernel_rfl) fun a w hF hM => ?_)
      refine sB 1 [(50, .pointer (some ⟨bb3, 2, none⟩))] hF (by kernel_rfl) fun a hF => ?_
      refine wl (eL 51 3 2 (v := .int .i64 y2_2) hF hM (by kernel_rfl) rfl rfl (by kernel_rfl) (by kernel_rfl) fun a w hF hM => ?_)
      refine wl (eM 52 (v := .tuple #[.int .i64 (mdV y2_0 y2_1 y2_2), .bool (mdB y2_0 y2_1 y2_2)]) hF hM (by kernel_rfl) (yld_call (f := 19) (args := #[.int .i64 y2_0, .int .i64 y2_1, .int .i64 y2_2]) hF (by kernel_rfl) (fun _ => by kernel_rfl) (fun w hM => mulDiv_w y2_0 y2_1 y2_2 w)) fun a w hF hM => ?_)
      refine sB 5 [(45, .tuple #[.int .i64 (mdV y2_0 y2_1 y2_2), .bool (mdB y2_0 y2_1 y2_2)]), (53, .int .i64 (mdV y2_0 y2_1 y2_2)), (54, .bool (mdB y2_0 y2_1 y2_2)), (7, .int .i64 (mdV y2_0 y2_1 y2_2)), (8, .bool (mdB y2_0 y2_1 y2_2))] hF (by kernel_rfl) fun a hF => ?_
      refine wpList_nil ?_
      refine hK9 _ _ ?_
      refine wp_seq_k fun K10 hK10 => ?_
      refine wp_region_lit ?_
      refine sB 1 [(56, .pointer (some ⟨bb3, 0, none⟩))] hF (by kernel_rfl) fun a hF => ?_
      refine wl (eL 57 3 0 (v := .int .i64 y2_0) hF hM (by kernel_rfl) rfl rfl (by kernel_rfl) (by kernel_rfl) fun a w hF hM => ?_)
      refine sB 1 [(58, .pointer (some ⟨bb3, 1, none⟩))] hF (by kernel_rfl) fun a hF => ?_
      refine wl (eL 59 3 1 (v := .int .i64 y2_1) hF hM (by kernel_rfl) rfl rfl (by kernel_rfl) (by kernel_rfl) fun a w hF hM => ?_)
      refine sB 1 [(60, .pointer (some ⟨bb3, 2, none⟩))] hF (by kernel_rfl) fun a hF => ?_
      refine wl (eL 61 3 2 (v := .int .i64 y2_2) hF hM (by kernel_rfl) rfl rfl (by kernel_rfl) (by kernel_rfl) fun a w hF hM => ?_)
      refine wl (eM 62 (v := .tuple #[.int .i64 (mdV y2_0 y2_1 y2_2), .bool (mdB y2_0 y2_1 y2_2)]) hF hM (by kernel_rfl) (yld_call (f := 20) (args := #[.int .i64 y2_0, .int .i64 y2_1, .int .i64 y2_2]) hF (by kernel_rfl) (fun _ => by kernel_rfl) (fun w hM => rMulDiv_w y2_0 y2_1 y2_2 w)) fun a w hF hM => ?_)
      refine sB 5 [(55, .tuple #[.int .i64 (mdV y2_0 y2_1 y2_2), .bool (mdB y2_0 y2_1 y2_2)]), (63, .int .i64 (mdV y2_0 y2_1 y2_2)), (64, .bool (mdB y2_0 y2_1 y2_2)), (9, .int .i64 (mdV y2_0 y2_1 y2_2)), (10, .bool (mdB y2_0 y2_1 y2_2))] hF (by kernel_rfl) fun a hF => ?_
      refine wpList_nil ?_
      refine hK10 _ _ ?_
      refine wp_seq_k fun K11 hK11 => ?_
      refine wp_region_lit ?_
      refine sB 2 [(65, .int .i64 (mdV y2_0 y2_1 y2_2)), (66, .int .i64 (mdV y2_0 y2_1 y2_2))] hF (by kernel_rfl) fun a hF => ?_
      refine wl (eP 67 (v0 := .bool (!decide (mdV y2_0 y2_1 y2_2 = mdV y2_0 y2_1 y2_2))) (v := .bool false) hF (by kernel_rfl) (fun _ => by kernel_rfl) (nT (by omega)) fun a hF => ?_)
      refine sB 3 [(68, .bool false), (69, .bool (mdB y2_0 y2_1 y2_2)), (70, .bool (mdB y2_0 y2_1 y2_2))] hF (by kernel_rfl) fun a hF => ?_
      refine wl (eP 71 (v0 := .bool ((mdB y2_0 y2_1 y2_2) != (mdB y2_0 y2_1 y2_2))) (v := .bool false) hF (by kernel_rfl) (fun _ => by kernel_rfl) (congrArg Value.bool (by simp)) fun a hF => ?_)
      refine sB 1 [(72, .bool false)] hF (by kernel_rfl) fun a hF => ?_
      refine wpList_nil ?_
      refine hK11 _ _ ?_
      refine cF hF (by kernel_rfl) (by kernel_rfl) ?_
      refine wp_skip ?_
      refine hK7 _ _ ?_
      refine wp_region_lit ?_
      refine wl (eP 73 (v0 := .int .i64 (IntKind.i64.wrap ((k42 : Int) + 1))) (v := .int .i64 ((k42 : Int) + 1)) hF (by kernel_rfl) (fun _ => by kernel_rfl) (wi (by omega)) fun a hF => ?_)
      refine sB 1 [(42, .int .i64 ((k42 : Int) + 1))] hF (by kernel_rfl) fun a hF => ?_
      refine wpList_nil ?_
      refine hK4 _ _ ⟨(k42 + 1), ⟨(((Fr.nil hF).c hF (i := 41) rfl rfl).c hF (i := 42) rfl (vi (show ((k42 : Int) + 1 : Int) = ((k42 + 1) : Int) from by omega))), (hM.sub Sub.nil), (show ((k42 + 1) : Int) ≤ 3 from by omega)⟩, (show 3 - (k42 + 1) < 3 - k42 from by omega)⟩
    · skip
      replace hF := hF.c hF (i := 43) (v := .bool false) rfl (bF hz2)
      refine cF hF (by kernel_rfl) (by kernel_rfl) ?_
      refine wp_exit ?_
      refine hK2 _ _ ?_
      refine wp_seq_k fun K12 hK12 => ?_
      refine wp_region_lit ?_
      refine wl (eM 74 (v := .bool true) hF hM (by kernel_rfl) (yld_call (f := 18) (args := #[]) hF (by kernel_rfl) (fun _ => by kernel_rfl) (fun w hM => works_w w (hT.below (Nat.le_refl _) hM.bel))) fun a w hF hM => ?_)
      refine sB 1 [(4, .bool true)] hF (by kernel_rfl) fun a hF => ?_
      refine wpList_nil ?_
      refine hK12 _ _ ?_
      refine wp_ret ?_
      refine hR0 _ _ ?_
      refine ret_of hF hM (.tmp rfl (.nil)) ?_
      exact ⟨rfl, hM.bel⟩

end Go.Proofs.YtjfjcjbjdbjlgaaDoor
