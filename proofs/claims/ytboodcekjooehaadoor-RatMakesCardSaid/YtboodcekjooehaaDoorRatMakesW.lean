/-
  The walk of RatMakes.
-/
import Derived.Test.YtboodcekjooehaaDoorRatE
namespace Go.Proofs.YtboodcekjooehaaDoor
open Go.RowKit
set_option linter.unusedVariables false
set_option linter.unusedSimpArgs false

set_option maxRecDepth 100000 in
set_option maxHeartbeats 8000000 in
theorem ratMakes_walk (n d xn xd : Int) (w0 : World) (hT : Tab w0) :
    Calls Tryd.prog 3 #[.int .i64 n, .int .i64 d, .agg #[.int .i64 xn, .int .i64 xd]] w0 (Ret w0 (.bool true)) := by
  obtain ⟨pw, hpw⟩ : ∃ z : Int, z = IntKind.i64.wrap (1 * 2 ^ min (d % 18446744073709551616 % 63).toNat IntKind.i64.bits) := ⟨_, rfl⟩
  obtain ⟨pm, hpm⟩ : ∃ z : Int, z = IntKind.i64.wrap ((-1) * 2 ^ min (d % 18446744073709551616 % 63).toNat IntKind.i64.bits) := ⟨_, rfl⟩
  refine enterK 91 Tryd.func3 rfl rfl rfl ?_
  intro a hF Q0 hR0 hN0
  have hM := Mem.start w0
  refine wp_seq_k fun K1 hK1 => ?_
  refine wp_region_lit ?_
  refine wl (eN 5 1 (t := 23) (fun b => .pointer (some ⟨b, 0, none⟩)) #[.int .i64 xn, .int .i64 xd] hF hM (by kernel_rfl) (fun _ => by kernel_rfl) fun bb1 a w hF hM => ?_)
  refine sB 1 [(6, .bool false)] hF (by kernel_rfl) fun a hF => ?_
  refine wpList_nil ?_
  refine hK1 _ _ ?_
  refine wp_seq_k fun K2 hK2 => ?_
  refine wp_region_lit ?_
  refine sB 1 [(14, .int .i64 d)] hF (by kernel_rfl) fun a hF => ?_
  refine wl (eP 15 (v0 := .int .u64 (IntKind.u64.wrap d)) (v := .int .u64 (d % 18446744073709551616)) hF (by kernel_rfl) (fun _ => by kernel_rfl) (vi (u64_wrap _)) fun a hF => ?_)
  refine wl (eM 16 (v := .int .u64 (d % 18446744073709551616 % 63)) hF hM (by kernel_rfl) (yld_rem (d % 18446744073709551616) 63 hF rfl (by kernel_rfl) (by kernel_rfl) (by kernel_rfl) (by decide) (Int.tmod_eq_emod_of_nonneg (by omega))) fun a w hF hM => ?_)
  refine sB 1 [(7, .int .u64 (d % 18446744073709551616 % 63))] hF (by kernel_rfl) fun a hF => ?_
  refine wpList_nil ?_
  refine hK2 _ _ ?_
  refine wp_seq_k fun K3 hK3 => ?_
  refine wp_seq_k fun K4 hK4 => ?_
  refine wp_region_lit ?_
  refine sB 4 [(17, .int .i64 n), (18, .int .i64 d), (19, .agg #[.int .i64 n, .int .i64 d]), (20, .int .i64 n)] hF (by kernel_rfl) fun a hF => ?_
  refine wl (eM 21 (v := .int .i64 (n.tmod 1000)) hF hM (by kernel_rfl) (yld_rem n 1000 hF rfl (by kernel_rfl) (by kernel_rfl) (by kernel_rfl) (by decide) rfl) fun a w hF hM => ?_)
  refine sB 1 [(22, .int .i64 d)] hF (by kernel_rfl) fun a hF => ?_
  refine wl (eM 23 (v := .int .i64 (d.tmod 100)) hF hM (by kernel_rfl) (yld_rem d 100 hF rfl (by kernel_rfl) (by kernel_rfl) (by kernel_rfl) (by decide) rfl) fun a w hF hM => ?_)
  refine sB 3 [(24, .agg #[.int .i64 (n.tmod 1000), .int .i64 (d.tmod 100)]), (25, .int .i64 n), (26, .int .u64 (d % 18446744073709551616 % 63))] hF (by kernel_rfl) fun a hF => ?_
  refine wl (eM 27 (v := .int .i64 pw) hF hM (by kernel_rfl) (yld_shl (yk := .u64) 1 (d % 18446744073709551616 % 63) hF rfl (by kernel_rfl) (by kernel_rfl) (by kernel_rfl) (by omega) (hpw.symm)) fun a w hF hM => ?_)
  refine sB 2 [(28, .agg #[.int .i64 n, .int .i64 pw]), (29, .int .u64 (d % 18446744073709551616 % 63))] hF (by kernel_rfl) fun a hF => ?_
  refine wl (eM 30 (v := .int .i64 pw) hF hM (by kernel_rfl) (yld_shl (yk := .u64) 1 (d % 18446744073709551616 % 63) hF rfl (by kernel_rfl) (by kernel_rfl) (by kernel_rfl) (by omega) (hpw.symm)) fun a w hF hM => ?_)
  refine sB 3 [(31, .int .i64 d), (32, .agg #[.int .i64 pw, .int .i64 d]), (33, .int .u64 (d % 18446744073709551616 % 63))] hF (by kernel_rfl) fun a hF => ?_
  refine wl (eM 34 (v := .int .i64 pm) hF hM (by kernel_rfl) (yld_shl (yk := .u64) (-1) (d % 18446744073709551616 % 63) hF rfl (by kernel_rfl) (by kernel_rfl) (by kernel_rfl) (by omega) (hpm.symm)) fun a w hF hM => ?_)
  refine sB 1 [(35, .int .i64 n)] hF (by kernel_rfl) fun a hF => ?_
  refine wl (eM 36 (v := .int .i64 (n.tmod 9)) hF hM (by kernel_rfl) (yld_rem n 9 hF rfl (by kernel_rfl) (by kernel_rfl) (by kernel_rfl) (by decide) rfl) fun a w hF hM => ?_)
  refine sB 2 [(37, .agg #[.int .i64 pm, .int .i64 (n.tmod 9)]), (38, .int .i64 n)] hF (by kernel_rfl) fun a hF => ?_
  refine wl (eM 39 (v := .int .i64 (n.tmod 2147483648)) hF hM (by kernel_rfl) (yld_rem n 2147483648 hF rfl (by kernel_rfl) (by kernel_rfl) (by kernel_rfl) (by decide) rfl) fun a w hF hM => ?_)
  refine sB 3 [(40, .agg #[.int .i64 (n.tmod 2147483648), .int .i64 0]), (41, .agg #[.int .i64 n, .int .i64 d, .int .i64 (n.tmod 1000), .int .i64 (d.tmod 100), .int .i64 n, .int .i64 pw, .int .i64 pw, .int .i64 d, .int .i64 pm, .int .i64 (n.tmod 9), .int .i64 (n.tmod 2147483648), .int .i64 0]), (42, .int .i64 0)] hF (by kernel_rfl) fun a hF => ?_
  refine wpList_nil ?_
  refine hK4 _ _ ?_
  refine wp_block ?_
  refine wp_loop_k (G := Nat) (fun gg a w => Fr 91 [(42, some (.int .i64 (gg : Int))), (5, some (.pointer (some ⟨bb1, 0, none⟩))), (41, some (.agg #[.int .i64 n, .int .i64 d, .int .i64 (n.tmod 1000), .int .i64 (d.tmod 100), .int .i64 n, .int .i64 pw, .int .i64 pw, .int .i64 d, .int .i64 pm, .int .i64 (n.tmod 9), .int .i64 (n.tmod 2147483648), .int .i64 0]))] a ∧ Mem w0.heap.size w0 [(1, some (.row bb1 23 #[.int .i64 xn, .int .i64 xd]))] w ∧ ((gg : Int) ≤ 6)) (fun gg => 6 - gg) (0) ?_ ?_
  · refine ⟨((((Fr.nil hF).c hF (i := 41) rfl rfl).c hF (i := 5) rfl rfl).c hF (i := 42) rfl (vi (show (0 : Int) = (0 : Int) from by omega))), (hM.sub (Sub.nil.c (k := 1) rfl rfl)), (show (0 : Int) ≤ 6 from by omega)⟩
  · intro gg a w hI
    intro K5 hK5
    obtain ⟨k42, rfl⟩ : ∃ x, x = gg := ⟨_, rfl⟩
    try dsimp only at hI hK5
    obtain ⟨hF, hM, hz1⟩ := hI
    refine wp_seq_k fun K6 hK6 => ?_
    refine wp_region_lit ?_
    refine sB 1 [(43, .bool (decide ((k42 : Int) < 6)))] hF (by kernel_rfl) fun a hF => ?_
    refine wpList_nil ?_
    refine hK6 _ _ ?_
    refine wp_seq_k fun K7 hK7 => ?_
    by_cases hz2 : (k42 : Int) < 6
    · skip
      replace hF := hF.c hF (i := 43) (v := .bool true) rfl (bT hz2)
      refine cT hF (by kernel_rfl) (by kernel_rfl) ?_
      refine wp_skip ?_
      refine hK7 _ _ ?_
      refine wp_seq_k fun K8 hK8 => ?_
      refine wp_block ?_
      refine wp_seq_k fun K9 hK9 => ?_
      refine wp_region_lit ?_
      obtain ⟨ys2, hl2, hm2, hy2⟩ := idx_agg (P := Tryd.prog) (t := 26) (e := 25) (len := 6) (m := 2) (kd := .i64) [n, d, n.tmod 1000, d.tmod 100, n, pw, pw, d, pm, n.tmod 9, n.tmod 2147483648, 0] ((k42 : Int)) (by kernel_rfl) (by kernel_rfl) (by omega) rfl
      obtain ⟨y2_0, y2_1, rfl⟩ := len2 hl2
      refine wl (eM 44 (v := .agg #[.int .i64 y2_0, .int .i64 y2_1]) hF hM (by kernel_rfl) (yld_index (X := .agg #[.int .i64 n, .int .i64 d, .int .i64 (n.tmod 1000), .int .i64 (d.tmod 100), .int .i64 n, .int .i64 pw, .int .i64 pw, .int .i64 d, .int .i64 pm, .int .i64 (n.tmod 9), .int .i64 (n.tmod 2147483648), .int .i64 0]) (I := .int .i64 ((k42 : Int))) hF rfl (by kernel_rfl) (by kernel_rfl) (by kernel_rfl) (fun w => hy2 w)) fun a w hF hM => ?_)
      refine wl (eN 9 2 (t := 25) (fun b => .pointer (some ⟨b, 0, none⟩)) #[.int .i64 0, .int .i64 0] hF hM (by kernel_rfl) (fun _ => by kernel_rfl) fun bb2 a w hF hM => ?_)
      refine wl (sStore (i := 2) (off := 0) (cs' := #[.int .i64 y2_0, .int .i64 y2_1]) hF hM (by kernel_rfl) rfl rfl (by kernel_rfl) (by kernel_rfl) rfl (by kernel_rfl) fun w hM => ?_)
      refine wpList_nil ?_
      refine hK9 _ _ ?_
      refine wp_seq_k fun K10 hK10 => ?_
      refine wp_region_lit ?_
      refine sB 1 [(46, .pointer (some ⟨bb2, 0, none⟩))] hF (by kernel_rfl) fun a hF => ?_
      refine wl (eL 47 2 0 (v := .int .i64 y2_0) hF hM (by kernel_rfl) rfl rfl (by kernel_rfl) (by kernel_rfl) fun a w hF hM => ?_)
      refine sB 1 [(48, .pointer (some ⟨bb2, 1, none⟩))] hF (by kernel_rfl) fun a hF => ?_
      refine wl (eL 49 2 1 (v := .int .i64 y2_1) hF hM (by kernel_rfl) rfl rfl (by kernel_rfl) (by kernel_rfl) fun a w hF hM => ?_)
      refine wl (eM 50 (v := .tuple #[.agg #[.int .i64 (rmN y2_0 y2_1), .int .i64 (rmD y2_0 y2_1)], .int .i64 (rmE y2_0 y2_1)]) hF hM (by kernel_rfl) (yld_call (f := 10) (args := #[.int .i64 y2_0, .int .i64 y2_1]) hF (by kernel_rfl) (fun _ => by kernel_rfl) (fun w hM => raMake_w y2_0 y2_1 w (hT.below (Nat.le_refl _) hM.bel))) fun a w hF hM => ?_)
      refine sB 3 [(45, .tuple #[.agg #[.int .i64 (rmN y2_0 y2_1), .int .i64 (rmD y2_0 y2_1)], .int .i64 (rmE y2_0 y2_1)]), (51, .agg #[.int .i64 (rmN y2_0 y2_1), .int .i64 (rmD y2_0 y2_1)]), (52, .int .i64 (rmE y2_0 y2_1))] hF (by kernel_rfl) fun a hF => ?_
      refine wl (eN 10 3 (t := 23) (fun b => .pointer (some ⟨b, 0, none⟩)) #[.int .i64 0, .int .i64 0] hF hM (by kernel_rfl) (fun _ => by kernel_rfl) fun bb3 a w hF hM => ?_)
      refine wl (sStore (i := 3) (off := 0) (cs' := #[.int .i64 (rmN y2_0 y2_1), .int .i64 (rmD y2_0 y2_1)]) hF hM (by kernel_rfl) rfl rfl (by kernel_rfl) (by kernel_rfl) rfl (by kernel_rfl) fun w hM => ?_)
      refine sB 1 [(11, .int .i64 (rmE y2_0 y2_1))] hF (by kernel_rfl) fun a hF => ?_
      refine wpList_nil ?_
      refine hK10 _ _ ?_
      refine wp_seq_k fun K11 hK11 => ?_
      refine wp_region_lit ?_
      refine sB 1 [(54, .pointer (some ⟨bb2, 0, none⟩))] hF (by kernel_rfl) fun a hF => ?_
      refine wl (eL 55 2 0 (v := .int .i64 y2_0) hF hM (by kernel_rfl) rfl rfl (by kernel_rfl) (by kernel_rfl) fun a w hF hM => ?_)
      refine sB 1 [(56, .pointer (some ⟨bb2, 1, none⟩))] hF (by kernel_rfl) fun a hF => ?_
      refine wl (eL 57 2 1 (v := .int .i64 y2_1) hF hM (by kernel_rfl) rfl rfl (by kernel_rfl) (by kernel_rfl) fun a w hF hM => ?_)
      refine wl (eM 58 (v := .tuple #[.agg #[.int .i64 (rmN y2_0 y2_1), .int .i64 (rmD y2_0 y2_1)], .int .i64 (rmE y2_0 y2_1)]) hF hM (by kernel_rfl) (yld_call (f := 11) (args := #[.int .i64 y2_0, .int .i64 y2_1]) hF (by kernel_rfl) (fun _ => by kernel_rfl) (fun w hM => raMakeR_w y2_0 y2_1 w)) fun a w hF hM => ?_)
      refine sB 3 [(53, .tuple #[.agg #[.int .i64 (rmN y2_0 y2_1), .int .i64 (rmD y2_0 y2_1)], .int .i64 (rmE y2_0 y2_1)]), (59, .agg #[.int .i64 (rmN y2_0 y2_1), .int .i64 (rmD y2_0 y2_1)]), (60, .int .i64 (rmE y2_0 y2_1))] hF (by kernel_rfl) fun a hF => ?_
      refine wl (eN 12 4 (t := 23) (fun b => .pointer (some ⟨b, 0, none⟩)) #[.int .i64 0, .int .i64 0] hF hM (by kernel_rfl) (fun _ => by kernel_rfl) fun bb4 a w hF hM => ?_)
      refine wl (sStore (i := 4) (off := 0) (cs' := #[.int .i64 (rmN y2_0 y2_1), .int .i64 (rmD y2_0 y2_1)]) hF hM (by kernel_rfl) rfl rfl (by kernel_rfl) (by kernel_rfl) rfl (by kernel_rfl) fun w hM => ?_)
      refine sB 1 [(13, .int .i64 (rmE y2_0 y2_1))] hF (by kernel_rfl) fun a hF => ?_
      refine wpList_nil ?_
      refine hK11 _ _ ?_
      refine wp_seq_k fun K12 hK12 => ?_
      refine wp_seq_k fun K13 hK13 => ?_
      refine wp_region_lit ?_
      refine wl (eL 61 3 0 (v := .agg #[.int .i64 (rmN y2_0 y2_1), .int .i64 (rmD y2_0 y2_1)]) hF hM (by kernel_rfl) rfl rfl (by kernel_rfl) (by kernel_rfl) fun a w hF hM => ?_)
      refine wl (eL 62 4 0 (v := .agg #[.int .i64 (rmN y2_0 y2_1), .int .i64 (rmD y2_0 y2_1)]) hF hM (by kernel_rfl) rfl rfl (by kernel_rfl) (by kernel_rfl) fun a w hF hM => ?_)
      refine wl (eM 63 (v := .bool false) hF hM (by kernel_rfl) ((yld_neq (C := Mem _ _ _) [rmN y2_0 y2_1, rmD y2_0 y2_1] [rmN y2_0 y2_1, rmD y2_0 y2_1] hF rfl (by kernel_rfl) (by kernel_rfl) (by kernel_rfl) rfl (by kernel_rfl) (by kernel_rfl) (by kernel_rfl) rfl rfl).to (nT rfl)) fun a w hF hM => ?_)
      refine sB 3 [(64, .bool false), (65, .int .i64 (rmE y2_0 y2_1)), (66, .int .i64 (rmE y2_0 y2_1))] hF (by kernel_rfl) fun a hF => ?_
      refine wl (eP 67 (v0 := .bool (!decide (rmE y2_0 y2_1 = rmE y2_0 y2_1))) (v := .bool false) hF (by kernel_rfl) (fun _ => by kernel_rfl) (nT (by omega)) fun a hF => ?_)
      refine sB 1 [(68, .bool false)] hF (by kernel_rfl) fun a hF => ?_
      refine wpList_nil ?_
      refine hK13 _ _ ?_
      refine cF hF (by kernel_rfl) (by kernel_rfl) ?_
      refine wp_skip ?_
      refine hK12 _ _ ?_
      refine wp_seq_k fun K14 hK14 => ?_
      refine rQ hM (by kernel_rfl) (by kernel_rfl) ?_
      refine eQ 69 (v0 := .pointer (some ⟨bb2, 0, none⟩)) (v := .pointer (some ⟨bb2, 0, none⟩)) hF (by kernel_rfl) (fun _ => by kernel_rfl) rfl fun a hF => ?_
      refine eQL 70 2 0 (v := .int .i64 y2_0) hF (by kernel_rfl) rfl rfl (by kernel_rfl) (by kernel_rfl) fun a hF => ?_
      refine eQ 71 (v0 := .pointer (some ⟨bb2, 1, none⟩)) (v := .pointer (some ⟨bb2, 1, none⟩)) hF (by kernel_rfl) (fun _ => by kernel_rfl) rfl fun a hF => ?_
      refine eQL 72 2 1 (v := .int .i64 y2_1) hF (by kernel_rfl) rfl rfl (by kernel_rfl) (by kernel_rfl) fun a hF => ?_
      refine eQ 73 (v0 := .agg #[.int .i64 y2_0, .int .i64 y2_1]) (v := .agg #[.int .i64 y2_0, .int .i64 y2_1]) hF (by kernel_rfl) (fun _ => by kernel_rfl) rfl fun a hF => ?_
      refine eQ2 74 (v := .int .i64 (raE y2_0 y2_1)) hF (by kernel_rfl) (yld_call (f := 12) (args := #[.agg #[.int .i64 y2_0, .int .i64 y2_1]]) hF (by kernel_rfl) (fun _ => by kernel_rfl) (fun w hM => raCheck_w y2_0 y2_1 w (hT.below (Nat.le_refl _) hM.bel))) fun a hF => ?_
      refine eQ 75 (v0 := .pointer (some ⟨bb2, 0, none⟩)) (v := .pointer (some ⟨bb2, 0, none⟩)) hF (by kernel_rfl) (fun _ => by kernel_rfl) rfl fun a hF => ?_
      refine eQL 76 2 0 (v := .int .i64 y2_0) hF (by kernel_rfl) rfl rfl (by kernel_rfl) (by kernel_rfl) fun a hF => ?_
      refine eQ 77 (v0 := .pointer (some ⟨bb2, 1, none⟩)) (v := .pointer (some ⟨bb2, 1, none⟩)) hF (by kernel_rfl) (fun _ => by kernel_rfl) rfl fun a hF => ?_
      refine eQL 78 2 1 (v := .int .i64 y2_1) hF (by kernel_rfl) rfl rfl (by kernel_rfl) (by kernel_rfl) fun a hF => ?_
      refine eQ 79 (v0 := .agg #[.int .i64 y2_0, .int .i64 y2_1]) (v := .agg #[.int .i64 y2_0, .int .i64 y2_1]) hF (by kernel_rfl) (fun _ => by kernel_rfl) rfl fun a hF => ?_
      refine eQ2 80 (v := .int .i64 (raE y2_0 y2_1)) hF (by kernel_rfl) (yld_call (f := 13) (args := #[.agg #[.int .i64 y2_0, .int .i64 y2_1]]) hF (by kernel_rfl) (fun _ => by kernel_rfl) (fun w hM => raRef_w y2_0 y2_1 w)) fun a hF => ?_
      refine eQ 81 (v0 := .bool (!decide (raE y2_0 y2_1 = raE y2_0 y2_1))) (v := .bool false) hF (by kernel_rfl) (fun _ => by kernel_rfl) (nT (by omega)) fun a hF => ?_
      refine wpQuiet_nil ?_
      intro w hM
      refine hK14 _ _ ?_
      refine cF hF (by kernel_rfl) (by kernel_rfl) ?_
      refine wp_skip ?_
      refine hK8 _ _ ?_
      refine wp_region_lit ?_
      refine wl (eP 82 (v0 := .int .i64 (IntKind.i64.wrap ((k42 : Int) + 1))) (v := .int .i64 ((k42 : Int) + 1)) hF (by kernel_rfl) (fun _ => by kernel_rfl) (wi (by omega)) fun a hF => ?_)
      refine sB 1 [(42, .int .i64 ((k42 : Int) + 1))] hF (by kernel_rfl) fun a hF => ?_
      refine wpList_nil ?_
      refine hK5 _ _ ⟨(k42 + 1), ⟨((((Fr.nil hF).c hF (i := 41) rfl rfl).c hF (i := 5) rfl rfl).c hF (i := 42) rfl (vi (show ((k42 : Int) + 1 : Int) = ((k42 + 1) : Int) from by omega))), (hM.sub (Sub.nil.c (k := 1) rfl rfl)), (show ((k42 + 1) : Int) ≤ 6 from by omega)⟩, (show 6 - (k42 + 1) < 6 - k42 from by omega)⟩
    · skip
      replace hF := hF.c hF (i := 43) (v := .bool false) rfl (bF hz2)
      refine cF hF (by kernel_rfl) (by kernel_rfl) ?_
      refine wp_exit ?_
      refine hK3 _ _ ?_
      refine wp_seq_k fun K15 hK15 => ?_
      refine rQ hM (by kernel_rfl) (by kernel_rfl) ?_
      refine eQL 83 1 0 (v := .agg #[.int .i64 xn, .int .i64 xd]) hF (by kernel_rfl) rfl rfl (by kernel_rfl) (by kernel_rfl) fun a hF => ?_
      refine eQ2 84 (v := .int .i64 (raE xn xd)) hF (by kernel_rfl) (yld_call (f := 12) (args := #[.agg #[.int .i64 xn, .int .i64 xd]]) hF (by kernel_rfl) (fun _ => by kernel_rfl) (fun w hM => raCheck_w xn xd w (hT.below (Nat.le_refl _) hM.bel))) fun a hF => ?_
      refine eQL 85 1 0 (v := .agg #[.int .i64 xn, .int .i64 xd]) hF (by kernel_rfl) rfl rfl (by kernel_rfl) (by kernel_rfl) fun a hF => ?_
      refine eQ2 86 (v := .int .i64 (raE xn xd)) hF (by kernel_rfl) (yld_call (f := 13) (args := #[.agg #[.int .i64 xn, .int .i64 xd]]) hF (by kernel_rfl) (fun _ => by kernel_rfl) (fun w hM => raRef_w xn xd w)) fun a hF => ?_
      refine eQ 87 (v0 := .bool (decide (raE xn xd = raE xn xd))) (v := .bool true) hF (by kernel_rfl) (fun _ => by kernel_rfl) (bT (by omega)) fun a hF => ?_
      refine eQ 88 (v0 := .bool true) (v := .bool true) hF (by kernel_rfl) (fun _ => by kernel_rfl) rfl fun a hF => ?_
      refine eQ2 89 (v := .bool true) hF (by kernel_rfl) (yld_call (f := 14) (args := #[]) hF (by kernel_rfl) (fun _ => by kernel_rfl) (fun w hM => works_w w (hT.below (Nat.le_refl _) hM.bel))) fun a hF => ?_
      refine eQ 90 (v0 := .bool true) (v := .bool true) hF (by kernel_rfl) (fun _ => by kernel_rfl) rfl fun a hF => ?_
      refine eQ 6 (v0 := .bool true) (v := .bool true) hF (by kernel_rfl) (fun _ => by kernel_rfl) rfl fun a hF => ?_
      refine wpQuiet_nil ?_
      intro w hM
      refine hK15 _ _ ?_
      refine wp_ret ?_
      refine hR0 _ _ ?_
      refine ret_of hF hM (.tmp rfl (.nil)) ?_
      exact ⟨rfl, hM.bel⟩

end Go.Proofs.YtboodcekjooehaaDoor
