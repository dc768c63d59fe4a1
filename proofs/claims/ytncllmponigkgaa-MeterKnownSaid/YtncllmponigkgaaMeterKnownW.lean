/-
  The walk of MeterKnown.
-/
import Derived.Test.YtncllmponigkgaaMeterE
namespace Go.Proofs.Ytncllmponigkgaa
open Go.RowKit
set_option linter.unusedVariables false
set_option linter.unusedSimpArgs false

set_option maxRecDepth 100000 in
theorem meterKnown_walk (w0 : World) :
    Calls Try.prog 6 #[] w0 (Ret w0 (.bool true)) := by
  refine enterK 187 Try.func6 rfl rfl rfl ?_
  intro a hF Q0 hR0 hN0
  have hM := Mem.start w0
  refine wp_seq_k fun K1 hK1 => ?_
  refine wp_region_lit ?_
  refine sB 1 [(0, .bool false)] hF (by kernel_rfl) fun a hF => ?_
  refine wpList_nil ?_
  refine hK1 _ _ ?_
  refine wp_seq_k fun K2 hK2 => ?_
  refine wp_region_lit ?_
  refine wl (sC (f := 22) (args := #[]) hF (by kernel_rfl) rfl (by decide) (by kernel_rfl) (fun _ => by kernel_rfl) ?_)
  refine enterK 4 Try.func22 rfl rfl rfl ?_
  intro a1 hF1 QR3 hR3 hNR3
  refine wp_seq_k fun K4 hK4 => ?_
  refine wp_region_lit ?_
  refine wl (eN 0 1 (t := 23) (fun b => .pointer (some ⟨b, 0, none⟩)) #[.int .i64 0, .int .i64 0] hF1 hM (by kernel_rfl) (fun _ => by kernel_rfl) fun bb1 a1 w hF1 hM => ?_)
  refine wl (eN 1 2 (t := 23) (fun b => .pointer (some ⟨b, 0, none⟩)) #[.int .i64 0, .int .i64 0] hF1 hM (by kernel_rfl) (fun _ => by kernel_rfl) fun bb2 a1 w hF1 hM => ?_)
  refine wpList_nil ?_
  refine hK4 _ _ ?_
  refine wp_seq_k fun K5 hK5 => ?_
  refine wp_region_lit ?_
  refine sB 2 [(2, .agg #[.int .i64 100, .int .i64 131072]), (3, .agg #[.int .i64 150, .int .i64 262144])] hF1 (by kernel_rfl) fun a1 hF1 => ?_
  refine wl (sStore (i := 1) (off := 0) (cs' := #[.int .i64 100, .int .i64 131072]) hF1 hM (by kernel_rfl) rfl rfl (by kernel_rfl) (by kernel_rfl) rfl (by kernel_rfl) fun w hM => ?_)
  refine wl (sStore (i := 2) (off := 0) (cs' := #[.int .i64 150, .int .i64 262144]) hF1 hM (by kernel_rfl) rfl rfl (by kernel_rfl) (by kernel_rfl) rfl (by kernel_rfl) fun w hM => ?_)
  refine wpList_nil ?_
  refine hK5 _ _ ?_
  refine wp_ret ?_
  refine hR3 _ _ ?_
  refine ret_of hF1 hM (.cell (i := 1) rfl rfl (v := .agg #[.int .i64 100, .int .i64 131072]) (by kernel_rfl) (.cell (i := 2) rfl rfl (v := .agg #[.int .i64 150, .int .i64 262144]) (by kernel_rfl) (.nil))) ⟨_, rfl, ?_⟩
  intro a hF
  refine sB 3 [(25, .tuple #[.agg #[.int .i64 100, .int .i64 131072], .agg #[.int .i64 150, .int .i64 262144]]), (27, .agg #[.int .i64 100, .int .i64 131072]), (28, .agg #[.int .i64 150, .int .i64 262144])] hF (by kernel_rfl) fun a hF => ?_
  refine wl (eN 1 3 (t := 23) (fun b => .pointer (some ⟨b, 0, none⟩)) #[.int .i64 0, .int .i64 0] hF hM (by kernel_rfl) (fun _ => by kernel_rfl) fun bb3 a w hF hM => ?_)
  refine wl (eN 2 4 (t := 23) (fun b => .pointer (some ⟨b, 0, none⟩)) #[.int .i64 0, .int .i64 0] hF hM (by kernel_rfl) (fun _ => by kernel_rfl) fun bb4 a w hF hM => ?_)
  refine wl (sStore (i := 3) (off := 0) (cs' := #[.int .i64 100, .int .i64 131072]) hF hM (by kernel_rfl) rfl rfl (by kernel_rfl) (by kernel_rfl) rfl (by kernel_rfl) fun w hM => ?_)
  refine wl (sStore (i := 4) (off := 0) (cs' := #[.int .i64 150, .int .i64 262144]) hF hM (by kernel_rfl) rfl rfl (by kernel_rfl) (by kernel_rfl) rfl (by kernel_rfl) fun w hM => ?_)
  refine wpList_nil ?_
  refine hK2 _ _ ?_
  refine wp_seq_k fun K6 hK6 => ?_
  refine wp_region_lit ?_
  refine wl (eL 30 3 0 (v := .agg #[.int .i64 100, .int .i64 131072]) hF hM (by kernel_rfl) rfl rfl (by kernel_rfl) (by kernel_rfl) fun a w hF hM => ?_)
  refine wl (eL 31 4 0 (v := .agg #[.int .i64 150, .int .i64 262144]) hF hM (by kernel_rfl) rfl rfl (by kernel_rfl) (by kernel_rfl) fun a w hF hM => ?_)
  refine wl (eM 32 (v := .tuple #[.agg #[.int .i64 0, .int .i64 104857600, .int .i64 157286400], .int .i64 0]) hF hM (by kernel_rfl) (yld_call (f := 11) (args := #[.agg #[.int .i64 100, .int .i64 131072], .agg #[.int .i64 150, .int .i64 262144]]) hF (by kernel_rfl) (fun _ => by kernel_rfl) (fun w hM => meterNew_ok 100 131072 150 262144 w (by decide))) fun a w hF hM => ?_)
  refine sB 3 [(29, .tuple #[.agg #[.int .i64 0, .int .i64 104857600, .int .i64 157286400], .int .i64 0]), (33, .agg #[.int .i64 0, .int .i64 104857600, .int .i64 157286400]), (34, .int .i64 0)] hF (by kernel_rfl) fun a hF => ?_
  refine wl (eN 3 5 (t := 31) (fun b => .pointer (some ⟨b, 0, none⟩)) #[.int .i64 0, .int .i64 0, .int .i64 0] hF hM (by kernel_rfl) (fun _ => by kernel_rfl) fun bb5 a w hF hM => ?_)
  refine wl (sStore (i := 5) (off := 0) (cs' := #[.int .i64 0, .int .i64 104857600, .int .i64 157286400]) hF hM (by kernel_rfl) rfl rfl (by kernel_rfl) (by kernel_rfl) rfl (by kernel_rfl) fun w hM => ?_)
  refine sB 1 [(4, .int .i64 0)] hF (by kernel_rfl) fun a hF => ?_
  refine wpList_nil ?_
  refine hK6 _ _ ?_
  refine wp_seq_k fun K7 hK7 => ?_
  refine wp_region_lit ?_
  refine sB 1 [(35, .agg #[.int .i64 1, .int .i64 0])] hF (by kernel_rfl) fun a hF => ?_
  refine wl (eN 5 6 (t := 23) (fun b => .pointer (some ⟨b, 0, none⟩)) #[.int .i64 0, .int .i64 0] hF hM (by kernel_rfl) (fun _ => by kernel_rfl) fun bb6 a w hF hM => ?_)
  refine wl (sStore (i := 6) (off := 0) (cs' := #[.int .i64 1, .int .i64 0]) hF hM (by kernel_rfl) rfl rfl (by kernel_rfl) (by kernel_rfl) rfl (by kernel_rfl) fun w hM => ?_)
  refine wpList_nil ?_
  refine hK7 _ _ ?_
  refine wp_seq_k fun K8 hK8 => ?_
  refine wp_seq_k fun K9 hK9 => ?_
  refine wp_region_lit ?_
  refine sB 8 [(36, .agg #[.int .i64 (-1), .int .i64 0, .int .i64 0]), (37, .agg #[.int .i64 1099511627777, .int .i64 0, .int .i64 0]), (38, .agg #[.int .i64 0, .int .i64 (-1), .int .i64 0]), (39, .agg #[.int .i64 0, .int .i64 0, .int .i64 (-1)]), (40, .agg #[.int .i64 0, .int .i64 104857601, .int .i64 0]), (41, .agg #[.int .i64 0, .int .i64 0, .int .i64 157286401]), (42, .agg #[.int .i64 (-1), .int .i64 0, .int .i64 0, .int .i64 1099511627777, .int .i64 0, .int .i64 0, .int .i64 0, .int .i64 (-1), .int .i64 0, .int .i64 0, .int .i64 0, .int .i64 (-1), .int .i64 0, .int .i64 104857601, .int .i64 0, .int .i64 0, .int .i64 0, .int .i64 157286401]), (43, .int .i64 0)] hF (by kernel_rfl) fun a hF => ?_
  refine wpList_nil ?_
  refine hK9 _ _ ?_
  refine wp_block ?_
  refine wp_loop_rounds 7 ?_
  refine rounds_k fun K10 hK10 => ?_
  refine wp_seq_k fun K11 hK11 => ?_
  refine wp_region_lit ?_
  refine wl (eP 44 (v0 := .bool (decide (0 < 6))) (v := .bool true) hF (by kernel_rfl) (fun _ => by kernel_rfl) (bT (by omega)) fun a hF => ?_)
  refine wpList_nil ?_
  refine hK11 _ _ ?_
  refine wp_seq_k fun K12 hK12 => ?_
  refine cT hF (by kernel_rfl) (by kernel_rfl) ?_
  refine wp_skip ?_
  refine hK12 _ _ ?_
  refine wp_seq_k fun K13 hK13 => ?_
  refine wp_block ?_
  refine wp_seq_k fun K14 hK14 => ?_
  refine wp_region_lit ?_
  refine sB 1 [(45, .agg #[.int .i64 (-1), .int .i64 0, .int .i64 0])] hF (by kernel_rfl) fun a hF => ?_
  refine wl (eN 7 7 (t := 31) (fun b => .pointer (some ⟨b, 0, none⟩)) #[.int .i64 0, .int .i64 0, .int .i64 0] hF hM (by kernel_rfl) (fun _ => by kernel_rfl) fun bb7 a w hF hM => ?_)
  refine wl (sStore (i := 7) (off := 0) (cs' := #[.int .i64 (-1), .int .i64 0, .int .i64 0]) hF hM (by kernel_rfl) rfl rfl (by kernel_rfl) (by kernel_rfl) rfl (by kernel_rfl) fun w hM => ?_)
  refine wpList_nil ?_
  refine hK14 _ _ ?_
  refine wp_seq_k fun K15 hK15 => ?_
  refine wp_region_lit ?_
  refine wl (eL 47 3 0 (v := .agg #[.int .i64 100, .int .i64 131072]) hF hM (by kernel_rfl) rfl rfl (by kernel_rfl) (by kernel_rfl) fun a w hF hM => ?_)
  refine wl (eL 48 4 0 (v := .agg #[.int .i64 150, .int .i64 262144]) hF hM (by kernel_rfl) rfl rfl (by kernel_rfl) (by kernel_rfl) fun a w hF hM => ?_)
  refine wl (eL 49 7 0 (v := .agg #[.int .i64 (-1), .int .i64 0, .int .i64 0]) hF hM (by kernel_rfl) rfl rfl (by kernel_rfl) (by kernel_rfl) fun a w hF hM => ?_)
  refine wl (eM 50 (v := .tuple #[.int .i64 0, .agg #[.int .i64 0, .int .i64 0, .int .i64 0], .int .i64 420]) hF hM (by kernel_rfl) ((yld_call (f := 15) (args := #[.agg #[.int .i64 100, .int .i64 131072], .agg #[.int .i64 150, .int .i64 262144], .agg #[.int .i64 (-1), .int .i64 0, .int .i64 0], .int .i64 (-9), .int .i64 0]) hF (by kernel_rfl) (fun _ => by kernel_rfl) (fun w hM => meterMark_w 100 131072 150 262144 (-1) 0 0 (-9) 0 w)).to (by kernel_rfl)) fun a w hF hM => ?_)
  refine sB 4 [(46, .tuple #[.int .i64 0, .agg #[.int .i64 0, .int .i64 0, .int .i64 0], .int .i64 420]), (51, .int .i64 0), (52, .agg #[.int .i64 0, .int .i64 0, .int .i64 0]), (53, .int .i64 420)] hF (by kernel_rfl) fun a hF => ?_
  refine wl (eN 9 8 (t := 31) (fun b => .pointer (some ⟨b, 0, none⟩)) #[.int .i64 0, .int .i64 0, .int .i64 0] hF hM (by kernel_rfl) (fun _ => by kernel_rfl) fun bb8 a w hF hM => ?_)
  refine sB 1 [(8, .int .i64 0)] hF (by kernel_rfl) fun a hF => ?_
  refine wl (sStore (i := 8) (off := 0) (cs' := #[.int .i64 0, .int .i64 0, .int .i64 0]) hF hM (by kernel_rfl) rfl rfl (by kernel_rfl) (by kernel_rfl) rfl (by kernel_rfl) fun w hM => ?_)
  refine sB 1 [(10, .int .i64 420)] hF (by kernel_rfl) fun a hF => ?_
  refine wpList_nil ?_
  refine hK15 _ _ ?_
  refine wp_seq_k fun K16 hK16 => ?_
  refine wp_region_lit ?_
  refine wl (eL 54 3 0 (v := .agg #[.int .i64 100, .int .i64 131072]) hF hM (by kernel_rfl) rfl rfl (by kernel_rfl) (by kernel_rfl) fun a w hF hM => ?_)
  refine wl (eL 55 4 0 (v := .agg #[.int .i64 150, .int .i64 262144]) hF hM (by kernel_rfl) rfl rfl (by kernel_rfl) (by kernel_rfl) fun a w hF hM => ?_)
  refine wl (eL 56 7 0 (v := .agg #[.int .i64 (-1), .int .i64 0, .int .i64 0]) hF hM (by kernel_rfl) rfl rfl (by kernel_rfl) (by kernel_rfl) fun a w hF hM => ?_)
  refine wl (eM 57 (v := .int .i64 420) hF hM (by kernel_rfl) ((yld_call (f := 13) (args := #[.agg #[.int .i64 100, .int .i64 131072], .agg #[.int .i64 150, .int .i64 262144], .agg #[.int .i64 (-1), .int .i64 0, .int .i64 0]]) hF (by kernel_rfl) (fun _ => by kernel_rfl) (fun w hM => meterCheck_w 100 131072 150 262144 (-1) 0 0 w)).to (by kernel_rfl)) fun a w hF hM => ?_)
  refine wl (eP 58 (v0 := .bool (!decide (420 = 420))) (v := .bool false) hF (by kernel_rfl) (fun _ => by kernel_rfl) (nT (by omega)) fun a hF => ?_)
  refine sB 2 [(59, .bool false), (60, .int .i64 420)] hF (by kernel_rfl) fun a hF => ?_
  refine wl (eP 61 (v0 := .bool (!decide (420 = 420))) (v := .bool false) hF (by kernel_rfl) (fun _ => by kernel_rfl) (nT (by omega)) fun a hF => ?_)
  refine sB 2 [(62, .bool false), (63, .bool false)] hF (by kernel_rfl) fun a hF => ?_
  refine wl (eL 64 6 0 (v := .agg #[.int .i64 1, .int .i64 0]) hF hM (by kernel_rfl) rfl rfl (by kernel_rfl) (by kernel_rfl) fun a w hF hM => ?_)
  refine wl (eL 65 4 0 (v := .agg #[.int .i64 150, .int .i64 262144]) hF hM (by kernel_rfl) rfl rfl (by kernel_rfl) (by kernel_rfl) fun a w hF hM => ?_)
  refine wl (eL 66 7 0 (v := .agg #[.int .i64 (-1), .int .i64 0, .int .i64 0]) hF hM (by kernel_rfl) rfl rfl (by kernel_rfl) (by kernel_rfl) fun a w hF hM => ?_)
  refine wl (eM 67 (v := .int .i64 130) hF hM (by kernel_rfl) ((yld_call (f := 13) (args := #[.agg #[.int .i64 1, .int .i64 0], .agg #[.int .i64 150, .int .i64 262144], .agg #[.int .i64 (-1), .int .i64 0, .int .i64 0]]) hF (by kernel_rfl) (fun _ => by kernel_rfl) (fun w hM => meterCheck_w 1 0 150 262144 (-1) 0 0 w)).to (by kernel_rfl)) fun a w hF hM => ?_)
  refine wl (eP 68 (v0 := .bool (!decide (130 = 130))) (v := .bool false) hF (by kernel_rfl) (fun _ => by kernel_rfl) (nT (by omega)) fun a hF => ?_)
  refine sB 2 [(69, .bool false), (70, .bool false)] hF (by kernel_rfl) fun a hF => ?_
  refine wl (eL 71 3 0 (v := .agg #[.int .i64 100, .int .i64 131072]) hF hM (by kernel_rfl) rfl rfl (by kernel_rfl) (by kernel_rfl) fun a w hF hM => ?_)
  refine wl (eL 72 6 0 (v := .agg #[.int .i64 1, .int .i64 0]) hF hM (by kernel_rfl) rfl rfl (by kernel_rfl) (by kernel_rfl) fun a w hF hM => ?_)
  refine wl (eL 73 7 0 (v := .agg #[.int .i64 (-1), .int .i64 0, .int .i64 0]) hF hM (by kernel_rfl) rfl rfl (by kernel_rfl) (by kernel_rfl) fun a w hF hM => ?_)
  refine wl (eM 74 (v := .int .i64 130) hF hM (by kernel_rfl) ((yld_call (f := 13) (args := #[.agg #[.int .i64 100, .int .i64 131072], .agg #[.int .i64 1, .int .i64 0], .agg #[.int .i64 (-1), .int .i64 0, .int .i64 0]]) hF (by kernel_rfl) (fun _ => by kernel_rfl) (fun w hM => meterCheck_w 100 131072 1 0 (-1) 0 0 w)).to (by kernel_rfl)) fun a w hF hM => ?_)
  refine wl (eP 75 (v0 := .bool (!decide (130 = 130))) (v := .bool false) hF (by kernel_rfl) (fun _ => by kernel_rfl) (nT (by omega)) fun a hF => ?_)
  refine sB 2 [(76, .bool false), (77, .bool false)] hF (by kernel_rfl) fun a hF => ?_
  refine wl (eL 78 4 0 (v := .agg #[.int .i64 150, .int .i64 262144]) hF hM (by kernel_rfl) rfl rfl (by kernel_rfl) (by kernel_rfl) fun a w hF hM => ?_)
  refine wl (eL 79 3 0 (v := .agg #[.int .i64 100, .int .i64 131072]) hF hM (by kernel_rfl) rfl rfl (by kernel_rfl) (by kernel_rfl) fun a w hF hM => ?_)
  refine wl (eL 80 7 0 (v := .agg #[.int .i64 (-1), .int .i64 0, .int .i64 0]) hF hM (by kernel_rfl) rfl rfl (by kernel_rfl) (by kernel_rfl) fun a w hF hM => ?_)
  refine wl (eM 81 (v := .int .i64 2) hF hM (by kernel_rfl) ((yld_call (f := 13) (args := #[.agg #[.int .i64 150, .int .i64 262144], .agg #[.int .i64 100, .int .i64 131072], .agg #[.int .i64 (-1), .int .i64 0, .int .i64 0]]) hF (by kernel_rfl) (fun _ => by kernel_rfl) (fun w hM => meterCheck_w 150 262144 100 131072 (-1) 0 0 w)).to (by kernel_rfl)) fun a w hF hM => ?_)
  refine wl (eP 82 (v0 := .bool (!decide (2 = 2))) (v := .bool false) hF (by kernel_rfl) (fun _ => by kernel_rfl) (nT (by omega)) fun a hF => ?_)
  refine sB 1 [(83, .bool false)] hF (by kernel_rfl) fun a hF => ?_
  refine wpList_nil ?_
  refine hK16 _ _ ?_
  refine cF hF (by kernel_rfl) (by kernel_rfl) ?_
  refine wp_skip ?_
  refine hK13 _ _ ?_
  refine wp_region_lit ?_
  refine wl (eP 84 (v0 := .int .i64 (IntKind.i64.wrap (0 + 1))) (v := .int .i64 1) hF (by kernel_rfl) (fun _ => by kernel_rfl) (vi (by decide)) fun a hF => ?_)
  refine sB 1 [(43, .int .i64 1)] hF (by kernel_rfl) fun a hF => ?_
  refine wpList_nil ?_
  refine hK10 _ _ ?_
  refine rounds_k fun K17 hK17 => ?_
  refine wp_seq_k fun K18 hK18 => ?_
  refine wp_region_lit ?_
  refine wl (eP 44 (v0 := .bool (decide (1 < 6))) (v := .bool true) hF (by kernel_rfl) (fun _ => by kernel_rfl) (bT (by omega)) fun a hF => ?_)
  refine wpList_nil ?_
  refine hK18 _ _ ?_
  refine wp_seq_k fun K19 hK19 => ?_
  refine cT hF (by kernel_rfl) (by kernel_rfl) ?_
  refine wp_skip ?_
  refine hK19 _ _ ?_
  refine wp_seq_k fun K20 hK20 => ?_
  refine wp_block ?_
  refine wp_seq_k fun K21 hK21 => ?_
  refine wp_region_lit ?_
  refine sB 1 [(45, .agg #[.int .i64 1099511627777, .int .i64 0, .int .i64 0])] hF (by kernel_rfl) fun a hF => ?_
  refine wl (eN 7 9 (t := 31) (fun b => .pointer (some ⟨b, 0, none⟩)) #[.int .i64 0, .int .i64 0, .int .i64 0] hF hM (by kernel_rfl) (fun _ => by kernel_rfl) fun bb9 a w hF hM => ?_)
  refine wl (sStore (i := 9) (off := 0) (cs' := #[.int .i64 1099511627777, .int .i64 0, .int .i64 0]) hF hM (by kernel_rfl) rfl rfl (by kernel_rfl) (by kernel_rfl) rfl (by kernel_rfl) fun w hM => ?_)
  refine wpList_nil ?_
  refine hK21 _ _ ?_
  refine wp_seq_k fun K22 hK22 => ?_
  refine wp_region_lit ?_
  refine wl (eL 47 3 0 (v := .agg #[.int .i64 100, .int .i64 131072]) hF hM (by kernel_rfl) rfl rfl (by kernel_rfl) (by kernel_rfl) fun a w hF hM => ?_)
  refine wl (eL 48 4 0 (v := .agg #[.int .i64 150, .int .i64 262144]) hF hM (by kernel_rfl) rfl rfl (by kernel_rfl) (by kernel_rfl) fun a w hF hM => ?_)
  refine wl (eL 49 9 0 (v := .agg #[.int .i64 1099511627777, .int .i64 0, .int .i64 0]) hF hM (by kernel_rfl) rfl rfl (by kernel_rfl) (by kernel_rfl) fun a w hF hM => ?_)
  refine wl (eM 50 (v := .tuple #[.int .i64 0, .agg #[.int .i64 0, .int .i64 0, .int .i64 0], .int .i64 420]) hF hM (by kernel_rfl) ((yld_call (f := 15) (args := #[.agg #[.int .i64 100, .int .i64 131072], .agg #[.int .i64 150, .int .i64 262144], .agg #[.int .i64 1099511627777, .int .i64 0, .int .i64 0], .int .i64 (-9), .int .i64 0]) hF (by kernel_rfl) (fun _ => by kernel_rfl) (fun w hM => meterMark_w 100 131072 150 262144 1099511627777 0 0 (-9) 0 w)).to (by kernel_rfl)) fun a w hF hM => ?_)
  refine sB 4 [(46, .tuple #[.int .i64 0, .agg #[.int .i64 0, .int .i64 0, .int .i64 0], .int .i64 420]), (51, .int .i64 0), (52, .agg #[.int .i64 0, .int .i64 0, .int .i64 0]), (53, .int .i64 420)] hF (by kernel_rfl) fun a hF => ?_
  refine wl (eN 9 10 (t := 31) (fun b => .pointer (some ⟨b, 0, none⟩)) #[.int .i64 0, .int .i64 0, .int .i64 0] hF hM (by kernel_rfl) (fun _ => by kernel_rfl) fun bb10 a w hF hM => ?_)
  refine sB 1 [(8, .int .i64 0)] hF (by kernel_rfl) fun a hF => ?_
  refine wl (sStore (i := 10) (off := 0) (cs' := #[.int .i64 0, .int .i64 0, .int .i64 0]) hF hM (by kernel_rfl) rfl rfl (by kernel_rfl) (by kernel_rfl) rfl (by kernel_rfl) fun w hM => ?_)
  refine sB 1 [(10, .int .i64 420)] hF (by kernel_rfl) fun a hF => ?_
  refine wpList_nil ?_
  refine hK22 _ _ ?_
  refine wp_seq_k fun K23 hK23 => ?_
  refine wp_region_lit ?_
  refine wl (eL 54 3 0 (v := .agg #[.int .i64 100, .int .i64 131072]) hF hM (by kernel_rfl) rfl rfl (by kernel_rfl) (by kernel_rfl) fun a w hF hM => ?_)
  refine wl (eL 55 4 0 (v := .agg #[.int .i64 150, .int .i64 262144]) hF hM (by kernel_rfl) rfl rfl (by kernel_rfl) (by kernel_rfl) fun a w hF hM => ?_)
  refine wl (eL 56 9 0 (v := .agg #[.int .i64 1099511627777, .int .i64 0, .int .i64 0]) hF hM (by kernel_rfl) rfl rfl (by kernel_rfl) (by kernel_rfl) fun a w hF hM => ?_)
  refine wl (eM 57 (v := .int .i64 420) hF hM (by kernel_rfl) ((yld_call (f := 13) (args := #[.agg #[.int .i64 100, .int .i64 131072], .agg #[.int .i64 150, .int .i64 262144], .agg #[.int .i64 1099511627777, .int .i64 0, .int .i64 0]]) hF (by kernel_rfl) (fun _ => by kernel_rfl) (fun w hM => meterCheck_w 100 131072 150 262144 1099511627777 0 0 w)).to (by kernel_rfl)) fun a w hF hM => ?_)
  refine wl (eP 58 (v0 := .bool (!decide (420 = 420))) (v := .bool false) hF (by kernel_rfl) (fun _ => by kernel_rfl) (nT (by omega)) fun a hF => ?_)
  refine sB 2 [(59, .bool false), (60, .int .i64 420)] hF (by kernel_rfl) fun a hF => ?_
  refine wl (eP 61 (v0 := .bool (!decide (420 = 420))) (v := .bool false) hF (by kernel_rfl) (fun _ => by kernel_rfl) (nT (by omega)) fun a hF => ?_)
  refine sB 2 [(62, .bool false), (63, .bool false)] hF (by kernel_rfl) fun a hF => ?_
  refine wl (eL 64 6 0 (v := .agg #[.int .i64 1, .int .i64 0]) hF hM (by kernel_rfl) rfl rfl (by kernel_rfl) (by kernel_rfl) fun a w hF hM => ?_)
  refine wl (eL 65 4 0 (v := .agg #[.int .i64 150, .int .i64 262144]) hF hM (by kernel_rfl) rfl rfl (by kernel_rfl) (by kernel_rfl) fun a w hF hM => ?_)
  refine wl (eL 66 9 0 (v := .agg #[.int .i64 1099511627777, .int .i64 0, .int .i64 0]) hF hM (by kernel_rfl) rfl rfl (by kernel_rfl) (by kernel_rfl) fun a w hF hM => ?_)
  refine wl (eM 67 (v := .int .i64 130) hF hM (by kernel_rfl) ((yld_call (f := 13) (args := #[.agg #[.int .i64 1, .int .i64 0], .agg #[.int .i64 150, .int .i64 262144], .agg #[.int .i64 1099511627777, .int .i64 0, .int .i64 0]]) hF (by kernel_rfl) (fun _ => by kernel_rfl) (fun w hM => meterCheck_w 1 0 150 262144 1099511627777 0 0 w)).to (by kernel_rfl)) fun a w hF hM => ?_)
  refine wl (eP 68 (v0 := .bool (!decide (130 = 130))) (v := .bool false) hF (by kernel_rfl) (fun _ => by kernel_rfl) (nT (by omega)) fun a hF => ?_)
  refine sB 2 [(69, .bool false), (70, .bool false)] hF (by kernel_rfl) fun a hF => ?_
  refine wl (eL 71 3 0 (v := .agg #[.int .i64 100, .int .i64 131072]) hF hM (by kernel_rfl) rfl rfl (by kernel_rfl) (by kernel_rfl) fun a w hF hM => ?_)
  refine wl (eL 72 6 0 (v := .agg #[.int .i64 1, .int .i64 0]) hF hM (by kernel_rfl) rfl rfl (by kernel_rfl) (by kernel_rfl) fun a w hF hM => ?_)
  refine wl (eL 73 9 0 (v := .agg #[.int .i64 1099511627777, .int .i64 0, .int .i64 0]) hF hM (by kernel_rfl) rfl rfl (by kernel_rfl) (by kernel_rfl) fun a w hF hM => ?_)
  refine wl (eM 74 (v := .int .i64 130) hF hM (by kernel_rfl) ((yld_call (f := 13) (args := #[.agg #[.int .i64 100, .int .i64 131072], .agg #[.int .i64 1, .int .i64 0], .agg #[.int .i64 1099511627777, .int .i64 0, .int .i64 0]]) hF (by kernel_rfl) (fun _ => by kernel_rfl) (fun w hM => meterCheck_w 100 131072 1 0 1099511627777 0 0 w)).to (by kernel_rfl)) fun a w hF hM => ?_)
  refine wl (eP 75 (v0 := .bool (!decide (130 = 130))) (v := .bool false) hF (by kernel_rfl) (fun _ => by kernel_rfl) (nT (by omega)) fun a hF => ?_)
  refine sB 2 [(76, .bool false), (77, .bool false)] hF (by kernel_rfl) fun a hF => ?_
  refine wl (eL 78 4 0 (v := .agg #[.int .i64 150, .int .i64 262144]) hF hM (by kernel_rfl) rfl rfl (by kernel_rfl) (by kernel_rfl) fun a w hF hM => ?_)
  refine wl (eL 79 3 0 (v := .agg #[.int .i64 100, .int .i64 131072]) hF hM (by kernel_rfl) rfl rfl (by kernel_rfl) (by kernel_rfl) fun a w hF hM => ?_)
  refine wl (eL 80 9 0 (v := .agg #[.int .i64 1099511627777, .int .i64 0, .int .i64 0]) hF hM (by kernel_rfl) rfl rfl (by kernel_rfl) (by kernel_rfl) fun a w hF hM => ?_)
  refine wl (eM 81 (v := .int .i64 2) hF hM (by kernel_rfl) ((yld_call (f := 13) (args := #[.agg #[.int .i64 150, .int .i64 262144], .agg #[.int .i64 100, .int .i64 131072], .agg #[.int .i64 1099511627777, .int .i64 0, .int .i64 0]]) hF (by kernel_rfl) (fun _ => by kernel_rfl) (fun w hM => meterCheck_w 150 262144 100 131072 1099511627777 0 0 w)).to (by kernel_rfl)) fun a w hF hM => ?_)
  refine wl (eP 82 (v0 := .bool (!decide (2 = 2))) (v := .bool false) hF (by kernel_rfl) (fun _ => by kernel_rfl) (nT (by omega)) fun a hF => ?_)
  refine sB 1 [(83, .bool false)] hF (by kernel_rfl) fun a hF => ?_
  refine wpList_nil ?_
  refine hK23 _ _ ?_
  refine cF hF (by kernel_rfl) (by kernel_rfl) ?_
  refine wp_skip ?_
  refine hK20 _ _ ?_
  refine wp_region_lit ?_
  refine wl (eP 84 (v0 := .int .i64 (IntKind.i64.wrap (1 + 1))) (v := .int .i64 2) hF (by kernel_rfl) (fun _ => by kernel_rfl) (vi (by decide)) fun a hF => ?_)
  refine sB 1 [(43, .int .i64 2)] hF (by kernel_rfl) fun a hF => ?_
  refine wpList_nil ?_
  refine hK17 _ _ ?_
  refine rounds_k fun K24 hK24 => ?_
  refine wp_seq_k fun K25 hK25 => ?_
  refine wp_region_lit ?_
  refine wl (eP 44 (v0 := .bool (decide (2 < 6))) (v := .bool true) hF (by kernel_rfl) (fun _ => by kernel_rfl) (bT (by omega)) fun a hF => ?_)
  refine wpList_nil ?_
  refine hK25 _ _ ?_
  refine wp_seq_k fun K26 hK26 => ?_
  refine cT hF (by kernel_rfl) (by kernel_rfl) ?_
  refine wp_skip ?_
  refine hK26 _ _ ?_
  refine wp_seq_k fun K27 hK27 => ?_
  refine wp_block ?_
  refine wp_seq_k fun K28 hK28 => ?_
  refine wp_region_lit ?_
  refine sB 1 [(45, .agg #[.int .i64 0, .int .i64 (-1), .int .i64 0])] hF (by kernel_rfl) fun a hF => ?_
  refine wl (eN 7 11 (t := 31) (fun b => .pointer (some ⟨b, 0, none⟩)) #[.int .i64 0, .int .i64 0, .int .i64 0] hF hM (by kernel_rfl) (fun _ => by kernel_rfl) fun bb11 a w hF hM => ?_)
  refine wl (sStore (i := 11) (off := 0) (cs' := #[.int .i64 0, .int .i64 (-1), .int .i64 0]) hF hM (by kernel_rfl) rfl rfl (by kernel_rfl) (by kernel_rfl) rfl (by kernel_rfl) fun w hM => ?_)
  refine wpList_nil ?_
  refine hK28 _ _ ?_
  refine wp_seq_k fun K29 hK29 => ?_
  refine wp_region_lit ?_
  refine wl (eL 47 3 0 (v := .agg #[.int .i64 100, .int .i64 131072]) hF hM (by kernel_rfl) rfl rfl (by kernel_rfl) (by kernel_rfl) fun a w hF hM => ?_)
  refine wl (eL 48 4 0 (v := .agg #[.int .i64 150, .int .i64 262144]) hF hM (by kernel_rfl) rfl rfl (by kernel_rfl) (by kernel_rfl) fun a w hF hM => ?_)
  refine wl (eL 49 11 0 (v := .agg #[.int .i64 0, .int .i64 (-1), .int .i64 0]) hF hM (by kernel_rfl) rfl rfl (by kernel_rfl) (by kernel_rfl) fun a w hF hM => ?_)
  refine wl (eM 50 (v := .tuple #[.int .i64 0, .agg #[.int .i64 0, .int .i64 0, .int .i64 0], .int .i64 420]) hF hM (by kernel_rfl) ((yld_call (f := 15) (args := #[.agg #[.int .i64 100, .int .i64 131072], .agg #[.int .i64 150, .int .i64 262144], .agg #[.int .i64 0, .int .i64 (-1), .int .i64 0], .int .i64 (-9), .int .i64 0]) hF (by kernel_rfl) (fun _ => by kernel_rfl) (fun w hM => meterMark_w 100 131072 150 262144 0 (-1) 0 (-9) 0 w)).to (by kernel_rfl)) fun a w hF hM => ?_)
  refine sB 4 [(46, .tuple #[.int .i64 0, .agg #[.int .i64 0, .int .i64 0, .int .i64 0], .int .i64 420]), (51, .int .i64 0), (52, .agg #[.int .i64 0, .int .i64 0, .int .i64 0]), (53, .int .i64 420)] hF (by kernel_rfl) fun a hF => ?_
  refine wl (eN 9 12 (t := 31) (fun b => .pointer (some ⟨b, 0, none⟩)) #[.int .i64 0, .int .i64 0, .int .i64 0] hF hM (by kernel_rfl) (fun _ => by kernel_rfl) fun bb12 a w hF hM => ?_)
  refine sB 1 [(8, .int .i64 0)] hF (by kernel_rfl) fun a hF => ?_
  refine wl (sStore (i := 12) (off := 0) (cs' := #[.int .i64 0, .int .i64 0, .int .i64 0]) hF hM (by kernel_rfl) rfl rfl (by kernel_rfl) (by kernel_rfl) rfl (by kernel_rfl) fun w hM => ?_)
  refine sB 1 [(10, .int .i64 420)] hF (by kernel_rfl) fun a hF => ?_
  refine wpList_nil ?_
  refine hK29 _ _ ?_
  refine wp_seq_k fun K30 hK30 => ?_
  refine wp_region_lit ?_
  refine wl (eL 54 3 0 (v := .agg #[.int .i64 100, .int .i64 131072]) hF hM (by kernel_rfl) rfl rfl (by kernel_rfl) (by kernel_rfl) fun a w hF hM => ?_)
  refine wl (eL 55 4 0 (v := .agg #[.int .i64 150, .int .i64 262144]) hF hM (by kernel_rfl) rfl rfl (by kernel_rfl) (by kernel_rfl) fun a w hF hM => ?_)
  refine wl (eL 56 11 0 (v := .agg #[.int .i64 0, .int .i64 (-1), .int .i64 0]) hF hM (by kernel_rfl) rfl rfl (by kernel_rfl) (by kernel_rfl) fun a w hF hM => ?_)
  refine wl (eM 57 (v := .int .i64 420) hF hM (by kernel_rfl) ((yld_call (f := 13) (args := #[.agg #[.int .i64 100, .int .i64 131072], .agg #[.int .i64 150, .int .i64 262144], .agg #[.int .i64 0, .int .i64 (-1), .int .i64 0]]) hF (by kernel_rfl) (fun _ => by kernel_rfl) (fun w hM => meterCheck_w 100 131072 150 262144 0 (-1) 0 w)).to (by kernel_rfl)) fun a w hF hM => ?_)
  refine wl (eP 58 (v0 := .bool (!decide (420 = 420))) (v := .bool false) hF (by kernel_rfl) (fun _ => by kernel_rfl) (nT (by omega)) fun a hF => ?_)
  refine sB 2 [(59, .bool false), (60, .int .i64 420)] hF (by kernel_rfl) fun a hF => ?_
  refine wl (eP 61 (v0 := .bool (!decide (420 = 420))) (v := .bool false) hF (by kernel_rfl) (fun _ => by kernel_rfl) (nT (by omega)) fun a hF => ?_)
  refine sB 2 [(62, .bool false), (63, .bool false)] hF (by kernel_rfl) fun a hF => ?_
  refine wl (eL 64 6 0 (v := .agg #[.int .i64 1, .int .i64 0]) hF hM (by kernel_rfl) rfl rfl (by kernel_rfl) (by kernel_rfl) fun a w hF hM => ?_)
  refine wl (eL 65 4 0 (v := .agg #[.int .i64 150, .int .i64 262144]) hF hM (by kernel_rfl) rfl rfl (by kernel_rfl) (by kernel_rfl) fun a w hF hM => ?_)
  refine wl (eL 66 11 0 (v := .agg #[.int .i64 0, .int .i64 (-1), .int .i64 0]) hF hM (by kernel_rfl) rfl rfl (by kernel_rfl) (by kernel_rfl) fun a w hF hM => ?_)
  refine wl (eM 67 (v := .int .i64 130) hF hM (by kernel_rfl) ((yld_call (f := 13) (args := #[.agg #[.int .i64 1, .int .i64 0], .agg #[.int .i64 150, .int .i64 262144], .agg #[.int .i64 0, .int .i64 (-1), .int .i64 0]]) hF (by kernel_rfl) (fun _ => by kernel_rfl) (fun w hM => meterCheck_w 1 0 150 262144 0 (-1) 0 w)).to (by kernel_rfl)) fun a w hF hM => ?_)
  refine wl (eP 68 (v0 := .bool (!decide (130 = 130))) (v := .bool false) hF (by kernel_rfl) (fun _ => by kernel_rfl) (nT (by omega)) fun a hF => ?_)
  refine sB 2 [(69, .bool false), (70, .bool false)] hF (by kernel_rfl) fun a hF => ?_
  refine wl (eL 71 3 0 (v := .agg #[.int .i64 100, .int .i64 131072]) hF hM (by kernel_rfl) rfl rfl (by kernel_rfl) (by kernel_rfl) fun a w hF hM => ?_)
  refine wl (eL 72 6 0 (v := .agg #[.int .i64 1, .int .i64 0]) hF hM (by kernel_rfl) rfl rfl (by kernel_rfl) (by kernel_rfl) fun a w hF hM => ?_)
  refine wl (eL 73 11 0 (v := .agg #[.int .i64 0, .int .i64 (-1), .int .i64 0]) hF hM (by kernel_rfl) rfl rfl (by kernel_rfl) (by kernel_rfl) fun a w hF hM => ?_)
  refine wl (eM 74 (v := .int .i64 130) hF hM (by kernel_rfl) ((yld_call (f := 13) (args := #[.agg #[.int .i64 100, .int .i64 131072], .agg #[.int .i64 1, .int .i64 0], .agg #[.int .i64 0, .int .i64 (-1), .int .i64 0]]) hF (by kernel_rfl) (fun _ => by kernel_rfl) (fun w hM => meterCheck_w 100 131072 1 0 0 (-1) 0 w)).to (by kernel_rfl)) fun a w hF hM => ?_)
  refine wl (eP 75 (v0 := .bool (!decide (130 = 130))) (v := .bool false) hF (by kernel_rfl) (fun _ => by kernel_rfl) (nT (by omega)) fun a hF => ?_)
  refine sB 2 [(76, .bool false), (77, .bool false)] hF (by kernel_rfl) fun a hF => ?_
  refine wl (eL 78 4 0 (v := .agg #[.int .i64 150, .int .i64 262144]) hF hM (by kernel_rfl) rfl rfl (by kernel_rfl) (by kernel_rfl) fun a w hF hM => ?_)
  refine wl (eL 79 3 0 (v := .agg #[.int .i64 100, .int .i64 131072]) hF hM (by kernel_rfl) rfl rfl (by kernel_rfl) (by kernel_rfl) fun a w hF hM => ?_)
  refine wl (eL 80 11 0 (v := .agg #[.int .i64 0, .int .i64 (-1), .int .i64 0]) hF hM (by kernel_rfl) rfl rfl (by kernel_rfl) (by kernel_rfl) fun a w hF hM => ?_)
  refine wl (eM 81 (v := .int .i64 2) hF hM (by kernel_rfl) ((yld_call (f := 13) (args := #[.agg #[.int .i64 150, .int .i64 262144], .agg #[.int .i64 100, .int .i64 131072], .agg #[.int .i64 0, .int .i64 (-1), .int .i64 0]]) hF (by kernel_rfl) (fun _ => by kernel_rfl) (fun w hM => meterCheck_w 150 262144 100 131072 0 (-1) 0 w)).to (by kernel_rfl)) fun a w hF hM => ?_)
  refine wl (eP 82 (v0 := .bool (!decide (2 = 2))) (v := .bool false) hF (by kernel_rfl) (fun _ => by kernel_rfl) (nT (by omega)) fun a hF => ?_)
  refine sB 1 [(83, .bool false)] hF (by kernel_rfl) fun a hF => ?_
  refine wpList_nil ?_
  refine hK30 _ _ ?_
  refine cF hF (by kernel_rfl) (by kernel_rfl) ?_
  refine wp_skip ?_
  refine hK27 _ _ ?_
  refine wp_region_lit ?_
  refine wl (eP 84 (v0 := .int .i64 (IntKind.i64.wrap (2 + 1))) (v := .int .i64 3) hF (by kernel_rfl) (fun _ => by kernel_rfl) (vi (by decide)) fun a hF => ?_)
  refine sB 1 [(43, .int .i64 3)] hF (by kernel_rfl) fun a hF => ?_
  refine wpList_nil ?_
  refine hK24 _ _ ?_
  refine rounds_k fun K31 hK31 => ?_
  refine wp_seq_k fun K32 hK32 => ?_
  refine wp_region_lit ?_
  refine wl (eP 44 (v0 := .bool (decide (3 < 6))) (v := .bool true) hF (by kernel_rfl) (fun _ => by kernel_rfl) (bT (by omega)) fun a hF => ?_)
  refine wpList_nil ?_
  refine hK32 _ _ ?_
  refine wp_seq_k fun K33 hK33 => ?_
  refine cT hF (by kernel_rfl) (by kernel_rfl) ?_
  refine wp_skip ?_
  refine hK33 _ _ ?_
  refine wp_seq_k fun K34 hK34 => ?_
  refine wp_block ?_
  refine wp_seq_k fun K35 hK35 => ?_
  refine wp_region_lit ?_
  refine sB 1 [(45, .agg #[.int .i64 0, .int .i64 0, .int .i64 (-1)])] hF (by kernel_rfl) fun a hF => ?_
  refine wl (eN 7 13 (t := 31) (fun b => .pointer (some ⟨b, 0, none⟩)) #[.int .i64 0, .int .i64 0, .int .i64 0] hF hM (by kernel_rfl) (fun _ => by kernel_rfl) fun bb13 a w hF hM => ?_)
  refine wl (sStore (i := 13) (off := 0) (cs' := #[.int .i64 0, .int .i64 0, .int .i64 (-1)]) hF hM (by kernel_rfl) rfl rfl (by kernel_rfl) (by kernel_rfl) rfl (by kernel_rfl) fun w hM => ?_)
  refine wpList_nil ?_
  refine hK35 _ _ ?_
  refine wp_seq_k fun K36 hK36 => ?_
  refine wp_region_lit ?_
  refine wl (eL 47 3 0 (v := .agg #[.int .i64 100, .int .i64 131072]) hF hM (by kernel_rfl) rfl rfl (by kernel_rfl) (by kernel_rfl) fun a w hF hM => ?_)
  refine wl (eL 48 4 0 (v := .agg #[.int .i64 150, .int .i64 262144]) hF hM (by kernel_rfl) rfl rfl (by kernel_rfl) (by kernel_rfl) fun a w hF hM => ?_)
  refine wl (eL 49 13 0 (v := .agg #[.int .i64 0, .int .i64 0, .int .i64 (-1)]) hF hM (by kernel_rfl) rfl rfl (by kernel_rfl) (by kernel_rfl) fun a w hF hM => ?_)
  refine wl (eM 50 (v := .tuple #[.int .i64 0, .agg #[.int .i64 0, .int .i64 0, .int .i64 0], .int .i64 420]) hF hM (by kernel_rfl) ((yld_call (f := 15) (args := #[.agg #[.int .i64 100, .int .i64 131072], .agg #[.int .i64 150, .int .i64 262144], .agg #[.int .i64 0, .int .i64 0, .int .i64 (-1)], .int .i64 (-9), .int .i64 0]) hF (by kernel_rfl) (fun _ => by kernel_rfl) (fun w hM => meterMark_w 100 131072 150 262144 0 0 (-1) (-9) 0 w)).to (by kernel_rfl)) fun a w hF hM => ?_)
  refine sB 4 [(46, .tuple #[.int .i64 0, .agg #[.int .i64 0, .int .i64 0, .int .i64 0], .int .i64 420]), (51, .int .i64 0), (52, .agg #[.int .i64 0, .int .i64 0, .int .i64 0]), (53, .int .i64 420)] hF (by kernel_rfl) fun a hF => ?_
  refine wl (eN 9 14 (t := 31) (fun b => .pointer (some ⟨b, 0, none⟩)) #[.int .i64 0, .int .i64 0, .int .i64 0] hF hM (by kernel_rfl) (fun _ => by kernel_rfl) fun bb14 a w hF hM => ?_)
  refine sB 1 [(8, .int .i64 0)] hF (by kernel_rfl) fun a hF => ?_
  refine wl (sStore (i := 14) (off := 0) (cs' := #[.int .i64 0, .int .i64 0, .int .i64 0]) hF hM (by kernel_rfl) rfl rfl (by kernel_rfl) (by kernel_rfl) rfl (by kernel_rfl) fun w hM => ?_)
  refine sB 1 [(10, .int .i64 420)] hF (by kernel_rfl) fun a hF => ?_
  refine wpList_nil ?_
  refine hK36 _ _ ?_
  refine wp_seq_k fun K37 hK37 => ?_
  refine wp_region_lit ?_
  refine wl (eL 54 3 0 (v := .agg #[.int .i64 100, .int .i64 131072]) hF hM (by kernel_rfl) rfl rfl (by kernel_rfl) (by kernel_rfl) fun a w hF hM => ?_)
  refine wl (eL 55 4 0 (v := .agg #[.int .i64 150, .int .i64 262144]) hF hM (by kernel_rfl) rfl rfl (by kernel_rfl) (by kernel_rfl) fun a w hF hM => ?_)
  refine wl (eL 56 13 0 (v := .agg #[.int .i64 0, .int .i64 0, .int .i64 (-1)]) hF hM (by kernel_rfl) rfl rfl (by kernel_rfl) (by kernel_rfl) fun a w hF hM => ?_)
  refine wl (eM 57 (v := .int .i64 420) hF hM (by kernel_rfl) ((yld_call (f := 13) (args := #[.agg #[.int .i64 100, .int .i64 131072], .agg #[.int .i64 150, .int .i64 262144], .agg #[.int .i64 0, .int .i64 0, .int .i64 (-1)]]) hF (by kernel_rfl) (fun _ => by kernel_rfl) (fun w hM => meterCheck_w 100 131072 150 262144 0 0 (-1) w)).to (by kernel_rfl)) fun a w hF hM => ?_)
  refine wl (eP 58 (v0 := .bool (!decide (420 = 420))) (v := .bool false) hF (by kernel_rfl) (fun _ => by kernel_rfl) (nT (by omega)) fun a hF => ?_)
  refine sB 2 [(59, .bool false), (60, .int .i64 420)] hF (by kernel_rfl) fun a hF => ?_
  refine wl (eP 61 (v0 := .bool (!decide (420 = 420))) (v := .bool false) hF (by kernel_rfl) (fun _ => by kernel_rfl) (nT (by omega)) fun a hF => ?_)
  refine sB 2 [(62, .bool false), (63, .bool false)] hF (by kernel_rfl) fun a hF => ?_
  refine wl (eL 64 6 0 (v := .agg #[.int .i64 1, .int .i64 0]) hF hM (by kernel_rfl) rfl rfl (by kernel_rfl) (by kernel_rfl) fun a w hF hM => ?_)
  refine wl (eL 65 4 0 (v := .agg #[.int .i64 150, .int .i64 262144]) hF hM (by kernel_rfl) rfl rfl (by kernel_rfl) (by kernel_rfl) fun a w hF hM => ?_)
  refine wl (eL 66 13 0 (v := .agg #[.int .i64 0, .int .i64 0, .int .i64 (-1)]) hF hM (by kernel_rfl) rfl rfl (by kernel_rfl) (by kernel_rfl) fun a w hF hM => ?_)
  refine wl (eM 67 (v := .int .i64 130) hF hM (by kernel_rfl) ((yld_call (f := 13) (args := #[.agg #[.int .i64 1, .int .i64 0], .agg #[.int .i64 150, .int .i64 262144], .agg #[.int .i64 0, .int .i64 0, .int .i64 (-1)]]) hF (by kernel_rfl) (fun _ => by kernel_rfl) (fun w hM => meterCheck_w 1 0 150 262144 0 0 (-1) w)).to (by kernel_rfl)) fun a w hF hM => ?_)
  refine wl (eP 68 (v0 := .bool (!decide (130 = 130))) (v := .bool false) hF (by kernel_rfl) (fun _ => by kernel_rfl) (nT (by omega)) fun a hF => ?_)
  refine sB 2 [(69, .bool false), (70, .bool false)] hF (by kernel_rfl) fun a hF => ?_
  refine wl (eL 71 3 0 (v := .agg #[.int .i64 100, .int .i64 131072]) hF hM (by kernel_rfl) rfl rfl (by kernel_rfl) (by kernel_rfl) fun a w hF hM => ?_)
  refine wl (eL 72 6 0 (v := .agg #[.int .i64 1, .int .i64 0]) hF hM (by kernel_rfl) rfl rfl (by kernel_rfl) (by kernel_rfl) fun a w hF hM => ?_)
  refine wl (eL 73 13 0 (v := .agg #[.int .i64 0, .int .i64 0, .int .i64 (-1)]) hF hM (by kernel_rfl) rfl rfl (by kernel_rfl) (by kernel_rfl) fun a w hF hM => ?_)
  refine wl (eM 74 (v := .int .i64 130) hF hM (by kernel_rfl) ((yld_call (f := 13) (args := #[.agg #[.int .i64 100, .int .i64 131072], .agg #[.int .i64 1, .int .i64 0], .agg #[.int .i64 0, .int .i64 0, .int .i64 (-1)]]) hF (by kernel_rfl) (fun _ => by kernel_rfl) (fun w hM => meterCheck_w 100 131072 1 0 0 0 (-1) w)).to (by kernel_rfl)) fun a w hF hM => ?_)
  refine wl (eP 75 (v0 := .bool (!decide (130 = 130))) (v := .bool false) hF (by kernel_rfl) (fun _ => by kernel_rfl) (nT (by omega)) fun a hF => ?_)
  refine sB 2 [(76, .bool false), (77, .bool false)] hF (by kernel_rfl) fun a hF => ?_
  refine wl (eL 78 4 0 (v := .agg #[.int .i64 150, .int .i64 262144]) hF hM (by kernel_rfl) rfl rfl (by kernel_rfl) (by kernel_rfl) fun a w hF hM => ?_)
  refine wl (eL 79 3 0 (v := .agg #[.int .i64 100, .int .i64 131072]) hF hM (by kernel_rfl) rfl rfl (by kernel_rfl) (by kernel_rfl) fun a w hF hM => ?_)
  refine wl (eL 80 13 0 (v := .agg #[.int .i64 0, .int .i64 0, .int .i64 (-1)]) hF hM (by kernel_rfl) rfl rfl (by kernel_rfl) (by kernel_rfl) fun a w hF hM => ?_)
  refine wl (eM 81 (v := .int .i64 2) hF hM (by kernel_rfl) ((yld_call (f := 13) (args := #[.agg #[.int .i64 150, .int .i64 262144], .agg #[.int .i64 100, .int .i64 131072], .agg #[.int .i64 0, .int .i64 0, .int .i64 (-1)]]) hF (by kernel_rfl) (fun _ => by kernel_rfl) (fun w hM => meterCheck_w 150 262144 100 131072 0 0 (-1) w)).to (by kernel_rfl)) fun a w hF hM => ?_)
  refine wl (eP 82 (v0 := .bool (!decide (2 = 2))) (v := .bool false) hF (by kernel_rfl) (fun _ => by kernel_rfl) (nT (by omega)) fun a hF => ?_)
  refine sB 1 [(83, .bool false)] hF (by kernel_rfl) fun a hF => ?_
  refine wpList_nil ?_
  refine hK37 _ _ ?_
  refine cF hF (by kernel_rfl) (by kernel_rfl) ?_
  refine wp_skip ?_
  refine hK34 _ _ ?_
  refine wp_region_lit ?_
  refine wl (eP 84 (v0 := .int .i64 (IntKind.i64.wrap (3 + 1))) (v := .int .i64 4) hF (by kernel_rfl) (fun _ => by kernel_rfl) (vi (by decide)) fun a hF => ?_)
  refine sB 1 [(43, .int .i64 4)] hF (by kernel_rfl) fun a hF => ?_
  refine wpList_nil ?_
  refine hK31 _ _ ?_
  refine rounds_k fun K38 hK38 => ?_
  refine wp_seq_k fun K39 hK39 => ?_
  refine wp_region_lit ?_
  refine wl (eP 44 (v0 := .bool (decide (4 < 6))) (v := .bool true) hF (by kernel_rfl) (fun _ => by kernel_rfl) (bT (by omega)) fun a hF => ?_)
  refine wpList_nil ?_
  refine hK39 _ _ ?_
  refine wp_seq_k fun K40 hK40 => ?_
  refine cT hF (by kernel_rfl) (by kernel_rfl) ?_
  refine wp_skip ?_
  refine hK40 _ _ ?_
  refine wp_seq_k fun K41 hK41 => ?_
  refine wp_block ?_
  refine wp_seq_k fun K42 hK42 => ?_
  refine wp_region_lit ?_
  refine sB 1 [(45, .agg #[.int .i64 0, .int .i64 104857601, .int .i64 0])] hF (by kernel_rfl) fun a hF => ?_
  refine wl (eN 7 15 (t := 31) (fun b => .pointer (some ⟨b, 0, none⟩)) #[.int .i64 0, .int .i64 0, .int .i64 0] hF hM (by kernel_rfl) (fun _ => by kernel_rfl) fun bb15 a w hF hM => ?_)
  refine wl (sStore (i := 15) (off := 0) (cs' := #[.int .i64 0, .int .i64 104857601, .int .i64 0]) hF hM (by kernel_rfl) rfl rfl (by kernel_rfl) (by kernel_rfl) rfl (by kernel_rfl) fun w hM => ?_)
  refine wpList_nil ?_
  refine hK42 _ _ ?_
  refine wp_seq_k fun K43 hK43 => ?_
  refine wp_region_lit ?_
  refine wl (eL 47 3 0 (v := .agg #[.int .i64 100, .int .i64 131072]) hF hM (by kernel_rfl) rfl rfl (by kernel_rfl) (by kernel_rfl) fun a w hF hM => ?_)
  refine wl (eL 48 4 0 (v := .agg #[.int .i64 150, .int .i64 262144]) hF hM (by kernel_rfl) rfl rfl (by kernel_rfl) (by kernel_rfl) fun a w hF hM => ?_)
  refine wl (eL 49 15 0 (v := .agg #[.int .i64 0, .int .i64 104857601, .int .i64 0]) hF hM (by kernel_rfl) rfl rfl (by kernel_rfl) (by kernel_rfl) fun a w hF hM => ?_)
  refine wl (eM 50 (v := .tuple #[.int .i64 0, .agg #[.int .i64 0, .int .i64 0, .int .i64 0], .int .i64 420]) hF hM (by kernel_rfl) ((yld_call (f := 15) (args := #[.agg #[.int .i64 100, .int .i64 131072], .agg #[.int .i64 150, .int .i64 262144], .agg #[.int .i64 0, .int .i64 104857601, .int .i64 0], .int .i64 (-9), .int .i64 0]) hF (by kernel_rfl) (fun _ => by kernel_rfl) (fun w hM => meterMark_w 100 131072 150 262144 0 104857601 0 (-9) 0 w)).to (by kernel_rfl)) fun a w hF hM => ?_)
  refine sB 4 [(46, .tuple #[.int .i64 0, .agg #[.int .i64 0, .int .i64 0, .int .i64 0], .int .i64 420]), (51, .int .i64 0), (52, .agg #[.int .i64 0, .int .i64 0, .int .i64 0]), (53, .int .i64 420)] hF (by kernel_rfl) fun a hF => ?_
  refine wl (eN 9 16 (t := 31) (fun b => .pointer (some ⟨b, 0, none⟩)) #[.int .i64 0, .int .i64 0, .int .i64 0] hF hM (by kernel_rfl) (fun _ => by kernel_rfl) fun bb16 a w hF hM => ?_)
  refine sB 1 [(8, .int .i64 0)] hF (by kernel_rfl) fun a hF => ?_
  refine wl (sStore (i := 16) (off := 0) (cs' := #[.int .i64 0, .int .i64 0, .int .i64 0]) hF hM (by kernel_rfl) rfl rfl (by kernel_rfl) (by kernel_rfl) rfl (by kernel_rfl) fun w hM => ?_)
  refine sB 1 [(10, .int .i64 420)] hF (by kernel_rfl) fun a hF => ?_
  refine wpList_nil ?_
  refine hK43 _ _ ?_
  refine wp_seq_k fun K44 hK44 => ?_
  refine wp_region_lit ?_
  refine wl (eL 54 3 0 (v := .agg #[.int .i64 100, .int .i64 131072]) hF hM (by kernel_rfl) rfl rfl (by kernel_rfl) (by kernel_rfl) fun a w hF hM => ?_)
  refine wl (eL 55 4 0 (v := .agg #[.int .i64 150, .int .i64 262144]) hF hM (by kernel_rfl) rfl rfl (by kernel_rfl) (by kernel_rfl) fun a w hF hM => ?_)
  refine wl (eL 56 15 0 (v := .agg #[.int .i64 0, .int .i64 104857601, .int .i64 0]) hF hM (by kernel_rfl) rfl rfl (by kernel_rfl) (by kernel_rfl) fun a w hF hM => ?_)
  refine wl (eM 57 (v := .int .i64 420) hF hM (by kernel_rfl) ((yld_call (f := 13) (args := #[.agg #[.int .i64 100, .int .i64 131072], .agg #[.int .i64 150, .int .i64 262144], .agg #[.int .i64 0, .int .i64 104857601, .int .i64 0]]) hF (by kernel_rfl) (fun _ => by kernel_rfl) (fun w hM => meterCheck_w 100 131072 150 262144 0 104857601 0 w)).to (by kernel_rfl)) fun a w hF hM => ?_)
  refine wl (eP 58 (v0 := .bool (!decide (420 = 420))) (v := .bool false) hF (by kernel_rfl) (fun _ => by kernel_rfl) (nT (by omega)) fun a hF => ?_)
  refine sB 2 [(59, .bool false), (60, .int .i64 420)] hF (by kernel_rfl) fun a hF => ?_
  refine wl (eP 61 (v0 := .bool (!decide (420 = 420))) (v := .bool false) hF (by kernel_rfl) (fun _ => by kernel_rfl) (nT (by omega)) fun a hF => ?_)
  refine sB 2 [(62, .bool false), (63, .bool false)] hF (by kernel_rfl) fun a hF => ?_
  refine wl (eL 64 6 0 (v := .agg #[.int .i64 1, .int .i64 0]) hF hM (by kernel_rfl) rfl rfl (by kernel_rfl) (by kernel_rfl) fun a w hF hM => ?_)
  refine wl (eL 65 4 0 (v := .agg #[.int .i64 150, .int .i64 262144]) hF hM (by kernel_rfl) rfl rfl (by kernel_rfl) (by kernel_rfl) fun a w hF hM => ?_)
  refine wl (eL 66 15 0 (v := .agg #[.int .i64 0, .int .i64 104857601, .int .i64 0]) hF hM (by kernel_rfl) rfl rfl (by kernel_rfl) (by kernel_rfl) fun a w hF hM => ?_)
  refine wl (eM 67 (v := .int .i64 130) hF hM (by kernel_rfl) ((yld_call (f := 13) (args := #[.agg #[.int .i64 1, .int .i64 0], .agg #[.int .i64 150, .int .i64 262144], .agg #[.int .i64 0, .int .i64 104857601, .int .i64 0]]) hF (by kernel_rfl) (fun _ => by kernel_rfl) (fun w hM => meterCheck_w 1 0 150 262144 0 104857601 0 w)).to (by kernel_rfl)) fun a w hF hM => ?_)
  refine wl (eP 68 (v0 := .bool (!decide (130 = 130))) (v := .bool false) hF (by kernel_rfl) (fun _ => by kernel_rfl) (nT (by omega)) fun a hF => ?_)
  refine sB 2 [(69, .bool false), (70, .bool false)] hF (by kernel_rfl) fun a hF => ?_
  refine wl (eL 71 3 0 (v := .agg #[.int .i64 100, .int .i64 131072]) hF hM (by kernel_rfl) rfl rfl (by kernel_rfl) (by kernel_rfl) fun a w hF hM => ?_)
  refine wl (eL 72 6 0 (v := .agg #[.int .i64 1, .int .i64 0]) hF hM (by kernel_rfl) rfl rfl (by kernel_rfl) (by kernel_rfl) fun a w hF hM => ?_)
  refine wl (eL 73 15 0 (v := .agg #[.int .i64 0, .int .i64 104857601, .int .i64 0]) hF hM (by kernel_rfl) rfl rfl (by kernel_rfl) (by kernel_rfl) fun a w hF hM => ?_)
  refine wl (eM 74 (v := .int .i64 130) hF hM (by kernel_rfl) ((yld_call (f := 13) (args := #[.agg #[.int .i64 100, .int .i64 131072], .agg #[.int .i64 1, .int .i64 0], .agg #[.int .i64 0, .int .i64 104857601, .int .i64 0]]) hF (by kernel_rfl) (fun _ => by kernel_rfl) (fun w hM => meterCheck_w 100 131072 1 0 0 104857601 0 w)).to (by kernel_rfl)) fun a w hF hM => ?_)
  refine wl (eP 75 (v0 := .bool (!decide (130 = 130))) (v := .bool false) hF (by kernel_rfl) (fun _ => by kernel_rfl) (nT (by omega)) fun a hF => ?_)
  refine sB 2 [(76, .bool false), (77, .bool false)] hF (by kernel_rfl) fun a hF => ?_
  refine wl (eL 78 4 0 (v := .agg #[.int .i64 150, .int .i64 262144]) hF hM (by kernel_rfl) rfl rfl (by kernel_rfl) (by kernel_rfl) fun a w hF hM => ?_)
  refine wl (eL 79 3 0 (v := .agg #[.int .i64 100, .int .i64 131072]) hF hM (by kernel_rfl) rfl rfl (by kernel_rfl) (by kernel_rfl) fun a w hF hM => ?_)
  refine wl (eL 80 15 0 (v := .agg #[.int .i64 0, .int .i64 104857601, .int .i64 0]) hF hM (by kernel_rfl) rfl rfl (by kernel_rfl) (by kernel_rfl) fun a w hF hM => ?_)
  refine wl (eM 81 (v := .int .i64 2) hF hM (by kernel_rfl) ((yld_call (f := 13) (args := #[.agg #[.int .i64 150, .int .i64 262144], .agg #[.int .i64 100, .int .i64 131072], .agg #[.int .i64 0, .int .i64 104857601, .int .i64 0]]) hF (by kernel_rfl) (fun _ => by kernel_rfl) (fun w hM => meterCheck_w 150 262144 100 131072 0 104857601 0 w)).to (by kernel_rfl)) fun a w hF hM => ?_)
  refine wl (eP 82 (v0 := .bool (!decide (2 = 2))) (v := .bool false) hF (by kernel_rfl) (fun _ => by kernel_rfl) (nT (by omega)) fun a hF => ?_)
  refine sB 1 [(83, .bool false)] hF (by kernel_rfl) fun a hF => ?_
  refine wpList_nil ?_
  refine hK44 _ _ ?_
  refine cF hF (by kernel_rfl) (by kernel_rfl) ?_
  refine wp_skip ?_
  refine hK41 _ _ ?_
  refine wp_region_lit ?_
  refine wl (eP 84 (v0 := .int .i64 (IntKind.i64.wrap (4 + 1))) (v := .int .i64 5) hF (by kernel_rfl) (fun _ => by kernel_rfl) (vi (by decide)) fun a hF => ?_)
  refine sB 1 [(43, .int .i64 5)] hF (by kernel_rfl) fun a hF => ?_
  refine wpList_nil ?_
  refine hK38 _ _ ?_
  refine rounds_k fun K45 hK45 => ?_
  refine wp_seq_k fun K46 hK46 => ?_
  refine wp_region_lit ?_
  refine wl (eP 44 (v0 := .bool (decide (5 < 6))) (v := .bool true) hF (by kernel_rfl) (fun _ => by kernel_rfl) (bT (by omega)) fun a hF => ?_)
  refine wpList_nil ?_
  refine hK46 _ _ ?_
  refine wp_seq_k fun K47 hK47 => ?_
  refine cT hF (by kernel_rfl) (by kernel_rfl) ?_
  refine wp_skip ?_
  refine hK47 _ _ ?_
  refine wp_seq_k fun K48 hK48 => ?_
  refine wp_block ?_
  refine wp_seq_k fun K49 hK49 => ?_
  refine wp_region_lit ?_
  refine sB 1 [(45, .agg #[.int .i64 0, .int .i64 0, .int .i64 157286401])] hF (by kernel_rfl) fun a hF => ?_
  refine wl (eN 7 17 (t := 31) (fun b => .pointer (some ⟨b, 0, none⟩)) #[.int .i64 0, .int .i64 0, .int .i64 0] hF hM (by kernel_rfl) (fun _ => by kernel_rfl) fun bb17 a w hF hM => ?_)
  refine wl (sStore (i := 17) (off := 0) (cs' := #[.int .i64 0, .int .i64 0, .int .i64 157286401]) hF hM (by kernel_rfl) rfl rfl (by kernel_rfl) (by kernel_rfl) rfl (by kernel_rfl) fun w hM => ?_)
  refine wpList_nil ?_
  refine hK49 _ _ ?_
  refine wp_seq_k fun K50 hK50 => ?_
  refine wp_region_lit ?_
  refine wl (eL 47 3 0 (v := .agg #[.int .i64 100, .int .i64 131072]) hF hM (by kernel_rfl) rfl rfl (by kernel_rfl) (by kernel_rfl) fun a w hF hM => ?_)
  refine wl (eL 48 4 0 (v := .agg #[.int .i64 150, .int .i64 262144]) hF hM (by kernel_rfl) rfl rfl (by kernel_rfl) (by kernel_rfl) fun a w hF hM => ?_)
  refine wl (eL 49 17 0 (v := .agg #[.int .i64 0, .int .i64 0, .int .i64 157286401]) hF hM (by kernel_rfl) rfl rfl (by kernel_rfl) (by kernel_rfl) fun a w hF hM => ?_)
  refine wl (eM 50 (v := .tuple #[.int .i64 0, .agg #[.int .i64 0, .int .i64 0, .int .i64 0], .int .i64 420]) hF hM (by kernel_rfl) ((yld_call (f := 15) (args := #[.agg #[.int .i64 100, .int .i64 131072], .agg #[.int .i64 150, .int .i64 262144], .agg #[.int .i64 0, .int .i64 0, .int .i64 157286401], .int .i64 (-9), .int .i64 0]) hF (by kernel_rfl) (fun _ => by kernel_rfl) (fun w hM => meterMark_w 100 131072 150 262144 0 0 157286401 (-9) 0 w)).to (by kernel_rfl)) fun a w hF hM => ?_)
  refine sB 4 [(46, .tuple #[.int .i64 0, .agg #[.int .i64 0, .int .i64 0, .int .i64 0], .int .i64 420]), (51, .int .i64 0), (52, .agg #[.int .i64 0, .int .i64 0, .int .i64 0]), (53, .int .i64 420)] hF (by kernel_rfl) fun a hF => ?_
  refine wl (eN 9 18 (t := 31) (fun b => .pointer (some ⟨b, 0, none⟩)) #[.int .i64 0, .int .i64 0, .int .i64 0] hF hM (by kernel_rfl) (fun _ => by kernel_rfl) fun bb18 a w hF hM => ?_)
  refine sB 1 [(8, .int .i64 0)] hF (by kernel_rfl) fun a hF => ?_
  refine wl (sStore (i := 18) (off := 0) (cs' := #[.int .i64 0, .int .i64 0, .int .i64 0]) hF hM (by kernel_rfl) rfl rfl (by kernel_rfl) (by kernel_rfl) rfl (by kernel_rfl) fun w hM => ?_)
  refine sB 1 [(10, .int .i64 420)] hF (by kernel_rfl) fun a hF => ?_
  refine wpList_nil ?_
  refine hK50 _ _ ?_
  refine wp_seq_k fun K51 hK51 => ?_
  refine wp_region_lit ?_
  refine wl (eL 54 3 0 (v := .agg #[.int .i64 100, .int .i64 131072]) hF hM (by kernel_rfl) rfl rfl (by kernel_rfl) (by kernel_rfl) fun a w hF hM => ?_)
  refine wl (eL 55 4 0 (v := .agg #[.int .i64 150, .int .i64 262144]) hF hM (by kernel_rfl) rfl rfl (by kernel_rfl) (by kernel_rfl) fun a w hF hM => ?_)
  refine wl (eL 56 17 0 (v := .agg #[.int .i64 0, .int .i64 0, .int .i64 157286401]) hF hM (by kernel_rfl) rfl rfl (by kernel_rfl) (by kernel_rfl) fun a w hF hM => ?_)
  refine wl (eM 57 (v := .int .i64 420) hF hM (by kernel_rfl) ((yld_call (f := 13) (args := #[.agg #[.int .i64 100, .int .i64 131072], .agg #[.int .i64 150, .int .i64 262144], .agg #[.int .i64 0, .int .i64 0, .int .i64 157286401]]) hF (by kernel_rfl) (fun _ => by kernel_rfl) (fun w hM => meterCheck_w 100 131072 150 262144 0 0 157286401 w)).to (by kernel_rfl)) fun a w hF hM => ?_)
  refine wl (eP 58 (v0 := .bool (!decide (420 = 420))) (v := .bool false) hF (by kernel_rfl) (fun _ => by kernel_rfl) (nT (by omega)) fun a hF => ?_)
  refine sB 2 [(59, .bool false), (60, .int .i64 420)] hF (by kernel_rfl) fun a hF => ?_
  refine wl (eP 61 (v0 := .bool (!decide (420 = 420))) (v := .bool false) hF (by kernel_rfl) (fun _ => by kernel_rfl) (nT (by omega)) fun a hF => ?_)
  refine sB 2 [(62, .bool false), (63, .bool false)] hF (by kernel_rfl) fun a hF => ?_
  refine wl (eL 64 6 0 (v := .agg #[.int .i64 1, .int .i64 0]) hF hM (by kernel_rfl) rfl rfl (by kernel_rfl) (by kernel_rfl) fun a w hF hM => ?_)
  refine wl (eL 65 4 0 (v := .agg #[.int .i64 150, .int .i64 262144]) hF hM (by kernel_rfl) rfl rfl (by kernel_rfl) (by kernel_rfl) fun a w hF hM => ?_)
  refine wl (eL 66 17 0 (v := .agg #[.int .i64 0, .int .i64 0, .int .i64 157286401]) hF hM (by kernel_rfl) rfl rfl (by kernel_rfl) (by kernel_rfl) fun a w hF hM => ?_)
  refine wl (eM 67 (v := .int .i64 130) hF hM (by kernel_rfl) ((yld_call (f := 13) (args := #[.agg #[.int .i64 1, .int .i64 0], .agg #[.int .i64 150, .int .i64 262144], .agg #[.int .i64 0, .int .i64 0, .int .i64 157286401]]) hF (by kernel_rfl) (fun _ => by kernel_rfl) (fun w hM => meterCheck_w 1 0 150 262144 0 0 157286401 w)).to (by kernel_rfl)) fun a w hF hM => ?_)
  refine wl (eP 68 (v0 := .bool (!decide (130 = 130))) (v := .bool false) hF (by kernel_rfl) (fun _ => by kernel_rfl) (nT (by omega)) fun a hF => ?_)
  refine sB 2 [(69, .bool false), (70, .bool false)] hF (by kernel_rfl) fun a hF => ?_
  refine wl (eL 71 3 0 (v := .agg #[.int .i64 100, .int .i64 131072]) hF hM (by kernel_rfl) rfl rfl (by kernel_rfl) (by kernel_rfl) fun a w hF hM => ?_)
  refine wl (eL 72 6 0 (v := .agg #[.int .i64 1, .int .i64 0]) hF hM (by kernel_rfl) rfl rfl (by kernel_rfl) (by kernel_rfl) fun a w hF hM => ?_)
  refine wl (eL 73 17 0 (v := .agg #[.int .i64 0, .int .i64 0, .int .i64 157286401]) hF hM (by kernel_rfl) rfl rfl (by kernel_rfl) (by kernel_rfl) fun a w hF hM => ?_)
  refine wl (eM 74 (v := .int .i64 130) hF hM (by kernel_rfl) ((yld_call (f := 13) (args := #[.agg #[.int .i64 100, .int .i64 131072], .agg #[.int .i64 1, .int .i64 0], .agg #[.int .i64 0, .int .i64 0, .int .i64 157286401]]) hF (by kernel_rfl) (fun _ => by kernel_rfl) (fun w hM => meterCheck_w 100 131072 1 0 0 0 157286401 w)).to (by kernel_rfl)) fun a w hF hM => ?_)
  refine wl (eP 75 (v0 := .bool (!decide (130 = 130))) (v := .bool false) hF (by kernel_rfl) (fun _ => by kernel_rfl) (nT (by omega)) fun a hF => ?_)
  refine sB 2 [(76, .bool false), (77, .bool false)] hF (by kernel_rfl) fun a hF => ?_
  refine wl (eL 78 4 0 (v := .agg #[.int .i64 150, .int .i64 262144]) hF hM (by kernel_rfl) rfl rfl (by kernel_rfl) (by kernel_rfl) fun a w hF hM => ?_)
  refine wl (eL 79 3 0 (v := .agg #[.int .i64 100, .int .i64 131072]) hF hM (by kernel_rfl) rfl rfl (by kernel_rfl) (by kernel_rfl) fun a w hF hM => ?_)
  refine wl (eL 80 17 0 (v := .agg #[.int .i64 0, .int .i64 0, .int .i64 157286401]) hF hM (by kernel_rfl) rfl rfl (by kernel_rfl) (by kernel_rfl) fun a w hF hM => ?_)
  refine wl (eM 81 (v := .int .i64 2) hF hM (by kernel_rfl) ((yld_call (f := 13) (args := #[.agg #[.int .i64 150, .int .i64 262144], .agg #[.int .i64 100, .int .i64 131072], .agg #[.int .i64 0, .int .i64 0, .int .i64 157286401]]) hF (by kernel_rfl) (fun _ => by kernel_rfl) (fun w hM => meterCheck_w 150 262144 100 131072 0 0 157286401 w)).to (by kernel_rfl)) fun a w hF hM => ?_)
  refine wl (eP 82 (v0 := .bool (!decide (2 = 2))) (v := .bool false) hF (by kernel_rfl) (fun _ => by kernel_rfl) (nT (by omega)) fun a hF => ?_)
  refine sB 1 [(83, .bool false)] hF (by kernel_rfl) fun a hF => ?_
  refine wpList_nil ?_
  refine hK51 _ _ ?_
  refine cF hF (by kernel_rfl) (by kernel_rfl) ?_
  refine wp_skip ?_
  refine hK48 _ _ ?_
  refine wp_region_lit ?_
  refine wl (eP 84 (v0 := .int .i64 (IntKind.i64.wrap (5 + 1))) (v := .int .i64 6) hF (by kernel_rfl) (fun _ => by kernel_rfl) (vi (by decide)) fun a hF => ?_)
  refine sB 1 [(43, .int .i64 6)] hF (by kernel_rfl) fun a hF => ?_
  refine wpList_nil ?_
  refine hK45 _ _ ?_
  refine rounds_k fun K52 hK52 => ?_
  refine wp_seq_k fun K53 hK53 => ?_
  refine wp_region_lit ?_
  refine wl (eP 44 (v0 := .bool (decide (6 < 6))) (v := .bool false) hF (by kernel_rfl) (fun _ => by kernel_rfl) (bF (by omega)) fun a hF => ?_)
  refine wpList_nil ?_
  refine hK53 _ _ ?_
  refine wp_seq_k fun K54 hK54 => ?_
  refine cF hF (by kernel_rfl) (by kernel_rfl) ?_
  refine wp_exit ?_
  refine hK8 _ _ ?_
  refine wp_seq_k fun K55 hK55 => ?_
  refine wp_seq_k fun K56 hK56 => ?_
  refine wp_region_lit ?_
  refine sB 6 [(85, .agg #[.int .i64 (-1), .int .i64 5]), (86, .agg #[.int .i64 1099511627777, .int .i64 5]), (87, .agg #[.int .i64 0, .int .i64 0]), (88, .agg #[.int .i64 0, .int .i64 1048577]), (89, .agg #[.int .i64 (-1), .int .i64 5, .int .i64 1099511627777, .int .i64 5, .int .i64 0, .int .i64 0, .int .i64 0, .int .i64 1048577]), (90, .int .i64 0)] hF (by kernel_rfl) fun a hF => ?_
  refine wpList_nil ?_
  refine hK56 _ _ ?_
  refine wp_block ?_
  refine wp_loop_rounds 5 ?_
  refine rounds_k fun K57 hK57 => ?_
  refine wp_seq_k fun K58 hK58 => ?_
  refine wp_region_lit ?_
  refine wl (eP 91 (v0 := .bool (decide (0 < 4))) (v := .bool true) hF (by kernel_rfl) (fun _ => by kernel_rfl) (bT (by omega)) fun a hF => ?_)
  refine wpList_nil ?_
  refine hK58 _ _ ?_
  refine wp_seq_k fun K59 hK59 => ?_
  refine cT hF (by kernel_rfl) (by kernel_rfl) ?_
  refine wp_skip ?_
  refine hK59 _ _ ?_
  refine wp_seq_k fun K60 hK60 => ?_
  refine wp_block ?_
  refine wp_seq_k fun K61 hK61 => ?_
  refine wp_region_lit ?_
  refine sB 1 [(92, .agg #[.int .i64 (-1), .int .i64 5])] hF (by kernel_rfl) fun a hF => ?_
  refine wl (eN 12 19 (t := 60) (fun b => .pointer (some ⟨b, 0, none⟩)) #[.int .i64 0, .int .i64 0] hF hM (by kernel_rfl) (fun _ => by kernel_rfl) fun bb19 a w hF hM => ?_)
  refine wl (sStore (i := 19) (off := 0) (cs' := #[.int .i64 (-1), .int .i64 5]) hF hM (by kernel_rfl) rfl rfl (by kernel_rfl) (by kernel_rfl) rfl (by kernel_rfl) fun w hM => ?_)
  refine wpList_nil ?_
  refine hK61 _ _ ?_
  refine wp_seq_k fun K62 hK62 => ?_
  refine wp_region_lit ?_
  refine wl (eL 94 3 0 (v := .agg #[.int .i64 100, .int .i64 131072]) hF hM (by kernel_rfl) rfl rfl (by kernel_rfl) (by kernel_rfl) fun a w hF hM => ?_)
  refine wl (eL 95 4 0 (v := .agg #[.int .i64 150, .int .i64 262144]) hF hM (by kernel_rfl) rfl rfl (by kernel_rfl) (by kernel_rfl) fun a w hF hM => ?_)
  refine wl (eL 96 5 0 (v := .agg #[.int .i64 0, .int .i64 104857600, .int .i64 157286400]) hF hM (by kernel_rfl) rfl rfl (by kernel_rfl) (by kernel_rfl) fun a w hF hM => ?_)
  refine sB 1 [(97, .pointer (some ⟨bb19, 0, none⟩))] hF (by kernel_rfl) fun a hF => ?_
  refine wl (eL 98 19 0 (v := .int .i64 (-1)) hF hM (by kernel_rfl) rfl rfl (by kernel_rfl) (by kernel_rfl) fun a w hF hM => ?_)
  refine sB 1 [(99, .pointer (some ⟨bb19, 1, none⟩))] hF (by kernel_rfl) fun a hF => ?_
  refine wl (eL 100 19 1 (v := .int .i64 5) hF hM (by kernel_rfl) rfl rfl (by kernel_rfl) (by kernel_rfl) fun a w hF hM => ?_)
  refine wl (eM 101 (v := .tuple #[.int .i64 0, .agg #[.int .i64 0, .int .i64 0, .int .i64 0], .int .i64 2]) hF hM (by kernel_rfl) ((yld_call (f := 15) (args := #[.agg #[.int .i64 100, .int .i64 131072], .agg #[.int .i64 150, .int .i64 262144], .agg #[.int .i64 0, .int .i64 104857600, .int .i64 157286400], .int .i64 (-1), .int .i64 5]) hF (by kernel_rfl) (fun _ => by kernel_rfl) (fun w hM => meterMark_w 100 131072 150 262144 0 104857600 157286400 (-1) 5 w)).to (by kernel_rfl)) fun a w hF hM => ?_)
  refine sB 4 [(93, .tuple #[.int .i64 0, .agg #[.int .i64 0, .int .i64 0, .int .i64 0], .int .i64 2]), (102, .int .i64 0), (103, .agg #[.int .i64 0, .int .i64 0, .int .i64 0]), (104, .int .i64 2)] hF (by kernel_rfl) fun a hF => ?_
  refine wl (eN 14 20 (t := 31) (fun b => .pointer (some ⟨b, 0, none⟩)) #[.int .i64 0, .int .i64 0, .int .i64 0] hF hM (by kernel_rfl) (fun _ => by kernel_rfl) fun bb20 a w hF hM => ?_)
  refine sB 1 [(13, .int .i64 0)] hF (by kernel_rfl) fun a hF => ?_
  refine wl (sStore (i := 20) (off := 0) (cs' := #[.int .i64 0, .int .i64 0, .int .i64 0]) hF hM (by kernel_rfl) rfl rfl (by kernel_rfl) (by kernel_rfl) rfl (by kernel_rfl) fun w hM => ?_)
  refine sB 1 [(15, .int .i64 2)] hF (by kernel_rfl) fun a hF => ?_
  refine wpList_nil ?_
  refine hK62 _ _ ?_
  refine wp_seq_k fun K63 hK63 => ?_
  refine wp_region_lit ?_
  refine sB 1 [(105, .int .i64 2)] hF (by kernel_rfl) fun a hF => ?_
  refine wl (eP 106 (v0 := .bool (!decide (2 = 2))) (v := .bool false) hF (by kernel_rfl) (fun _ => by kernel_rfl) (nT (by omega)) fun a hF => ?_)
  refine sB 1 [(107, .bool false)] hF (by kernel_rfl) fun a hF => ?_
  refine wl (eL 108 20 0 (v := .agg #[.int .i64 0, .int .i64 0, .int .i64 0]) hF hM (by kernel_rfl) rfl rfl (by kernel_rfl) (by kernel_rfl) fun a w hF hM => ?_)
  refine sB 1 [(109, .agg #[.int .i64 0, .int .i64 0, .int .i64 0])] hF (by kernel_rfl) fun a hF => ?_
  refine wl (eM 110 (v := .bool false) hF hM (by kernel_rfl) ((yld_neq (C := Mem _ _ _) [0, 0, 0] [0, 0, 0] hF rfl (by kernel_rfl) (by kernel_rfl) (by kernel_rfl) rfl (by kernel_rfl) (by kernel_rfl) (by kernel_rfl) rfl rfl).to (nT (by decide))) fun a w hF hM => ?_)
  refine sB 1 [(111, .bool false)] hF (by kernel_rfl) fun a hF => ?_
  refine wpList_nil ?_
  refine hK63 _ _ ?_
  refine cF hF (by kernel_rfl) (by kernel_rfl) ?_
  refine wp_skip ?_
  refine hK60 _ _ ?_
  refine wp_region_lit ?_
  refine wl (eP 112 (v0 := .int .i64 (IntKind.i64.wrap (0 + 1))) (v := .int .i64 1) hF (by kernel_rfl) (fun _ => by kernel_rfl) (vi (by decide)) fun a hF => ?_)
  refine sB 1 [(90, .int .i64 1)] hF (by kernel_rfl) fun a hF => ?_
  refine wpList_nil ?_
  refine hK57 _ _ ?_
  refine rounds_k fun K64 hK64 => ?_
  refine wp_seq_k fun K65 hK65 => ?_
  refine wp_region_lit ?_
  refine wl (eP 91 (v0 := .bool (decide (1 < 4))) (v := .bool true) hF (by kernel_rfl) (fun _ => by kernel_rfl) (bT (by omega)) fun a hF => ?_)
  refine wpList_nil ?_
  refine hK65 _ _ ?_
  refine wp_seq_k fun K66 hK66 => ?_
  refine cT hF (by kernel_rfl) (by kernel_rfl) ?_
  refine wp_skip ?_
  refine hK66 _ _ ?_
  refine wp_seq_k fun K67 hK67 => ?_
  refine wp_block ?_
  refine wp_seq_k fun K68 hK68 => ?_
  refine wp_region_lit ?_
  refine sB 1 [(92, .agg #[.int .i64 1099511627777, .int .i64 5])] hF (by kernel_rfl) fun a hF => ?_
  refine wl (eN 12 21 (t := 60) (fun b => .pointer (some ⟨b, 0, none⟩)) #[.int .i64 0, .int .i64 0] hF hM (by kernel_rfl) (fun _ => by kernel_rfl) fun bb21 a w hF hM => ?_)
  refine wl (sStore (i := 21) (off := 0) (cs' := #[.int .i64 1099511627777, .int .i64 5]) hF hM (by kernel_rfl) rfl rfl (by kernel_rfl) (by kernel_rfl) rfl (by kernel_rfl) fun w hM => ?_)
  refine wpList_nil ?_
  refine hK68 _ _ ?_
  refine wp_seq_k fun K69 hK69 => ?_
  refine wp_region_lit ?_
  refine wl (eL 94 3 0 (v := .agg #[.int .i64 100, .int .i64 131072]) hF hM (by kernel_rfl) rfl rfl (by kernel_rfl) (by kernel_rfl) fun a w hF hM => ?_)
  refine wl (eL 95 4 0 (v := .agg #[.int .i64 150, .int .i64 262144]) hF hM (by kernel_rfl) rfl rfl (by kernel_rfl) (by kernel_rfl) fun a w hF hM => ?_)
  refine wl (eL 96 5 0 (v := .agg #[.int .i64 0, .int .i64 104857600, .int .i64 157286400]) hF hM (by kernel_rfl) rfl rfl (by kernel_rfl) (by kernel_rfl) fun a w hF hM => ?_)
  refine sB 1 [(97, .pointer (some ⟨bb21, 0, none⟩))] hF (by kernel_rfl) fun a hF => ?_
  refine wl (eL 98 21 0 (v := .int .i64 1099511627777) hF hM (by kernel_rfl) rfl rfl (by kernel_rfl) (by kernel_rfl) fun a w hF hM => ?_)
  refine sB 1 [(99, .pointer (some ⟨bb21, 1, none⟩))] hF (by kernel_rfl) fun a hF => ?_
  refine wl (eL 100 21 1 (v := .int .i64 5) hF hM (by kernel_rfl) rfl rfl (by kernel_rfl) (by kernel_rfl) fun a w hF hM => ?_)
  refine wl (eM 101 (v := .tuple #[.int .i64 0, .agg #[.int .i64 0, .int .i64 0, .int .i64 0], .int .i64 2]) hF hM (by kernel_rfl) ((yld_call (f := 15) (args := #[.agg #[.int .i64 100, .int .i64 131072], .agg #[.int .i64 150, .int .i64 262144], .agg #[.int .i64 0, .int .i64 104857600, .int .i64 157286400], .int .i64 1099511627777, .int .i64 5]) hF (by kernel_rfl) (fun _ => by kernel_rfl) (fun w hM => meterMark_w 100 131072 150 262144 0 104857600 157286400 1099511627777 5 w)).to (by kernel_rfl)) fun a w hF hM => ?_)
  refine sB 4 [(93, .tuple #[.int .i64 0, .agg #[.int .i64 0, .int .i64 0, .int .i64 0], .int .i64 2]), (102, .int .i64 0), (103, .agg #[.int .i64 0, .int .i64 0, .int .i64 0]), (104, .int .i64 2)] hF (by kernel_rfl) fun a hF => ?_
  refine wl (eN 14 22 (t := 31) (fun b => .pointer (some ⟨b, 0, none⟩)) #[.int .i64 0, .int .i64 0, .int .i64 0] hF hM (by kernel_rfl) (fun _ => by kernel_rfl) fun bb22 a w hF hM => ?_)
  refine sB 1 [(13, .int .i64 0)] hF (by kernel_rfl) fun a hF => ?_
  refine wl (sStore (i := 22) (off := 0) (cs' := #[.int .i64 0, .int .i64 0, .int .i64 0]) hF hM (by kernel_rfl) rfl rfl (by kernel_rfl) (by kernel_rfl) rfl (by kernel_rfl) fun w hM => ?_)
  refine sB 1 [(15, .int .i64 2)] hF (by kernel_rfl) fun a hF => ?_
  refine wpList_nil ?_
  refine hK69 _ _ ?_
  refine wp_seq_k fun K70 hK70 => ?_
  refine wp_region_lit ?_
  refine sB 1 [(105, .int .i64 2)] hF (by kernel_rfl) fun a hF => ?_
  refine wl (eP 106 (v0 := .bool (!decide (2 = 2))) (v := .bool false) hF (by kernel_rfl) (fun _ => by kernel_rfl) (nT (by omega)) fun a hF => ?_)
  refine sB 1 [(107, .bool false)] hF (by kernel_rfl) fun a hF => ?_
  refine wl (eL 108 22 0 (v := .agg #[.int .i64 0, .int .i64 0, .int .i64 0]) hF hM (by kernel_rfl) rfl rfl (by kernel_rfl) (by kernel_rfl) fun a w hF hM => ?_)
  refine sB 1 [(109, .agg #[.int .i64 0, .int .i64 0, .int .i64 0])] hF (by kernel_rfl) fun a hF => ?_
  refine wl (eM 110 (v := .bool false) hF hM (by kernel_rfl) ((yld_neq (C := Mem _ _ _) [0, 0, 0] [0, 0, 0] hF rfl (by kernel_rfl) (by kernel_rfl) (by kernel_rfl) rfl (by kernel_rfl) (by kernel_rfl) (by kernel_rfl) rfl rfl).to (nT (by decide))) fun a w hF hM => ?_)
  refine sB 1 [(111, .bool false)] hF (by kernel_rfl) fun a hF => ?_
  refine wpList_nil ?_
  refine hK70 _ _ ?_
  refine cF hF (by kernel_rfl) (by kernel_rfl) ?_
  refine wp_skip ?_
  refine hK67 _ _ ?_
  refine wp_region_lit ?_
  refine wl (eP 112 (v0 := .int .i64 (IntKind.i64.wrap (1 + 1))) (v := .int .i64 2) hF (by kernel_rfl) (fun _ => by kernel_rfl) (vi (by decide)) fun a hF => ?_)
  refine sB 1 [(90, .int .i64 2)] hF (by kernel_rfl) fun a hF => ?_
  refine wpList_nil ?_
  refine hK64 _ _ ?_
  refine rounds_k fun K71 hK71 => ?_
  refine wp_seq_k fun K72 hK72 => ?_
  refine wp_region_lit ?_
  refine wl (eP 91 (v0 := .bool (decide (2 < 4))) (v := .bool true) hF (by kernel_rfl) (fun _ => by kernel_rfl) (bT (by omega)) fun a hF => ?_)
  refine wpList_nil ?_
  refine hK72 _ _ ?_
  refine wp_seq_k fun K73 hK73 => ?_
  refine cT hF (by kernel_rfl) (by kernel_rfl) ?_
  refine wp_skip ?_
  refine hK73 _ _ ?_
  refine wp_seq_k fun K74 hK74 => ?_
  refine wp_block ?_
  refine wp_seq_k fun K75 hK75 => ?_
  refine wp_region_lit ?_
  refine sB 1 [(92, .agg #[.int .i64 0, .int .i64 0])] hF (by kernel_rfl) fun a hF => ?_
  refine wl (eN 12 23 (t := 60) (fun b => .pointer (some ⟨b, 0, none⟩)) #[.int .i64 0, .int .i64 0] hF hM (by kernel_rfl) (fun _ => by kernel_rfl) fun bb23 a w hF hM => ?_)
  refine wl (sStore (i := 23) (off := 0) (cs' := #[.int .i64 0, .int .i64 0]) hF hM (by kernel_rfl) rfl rfl (by kernel_rfl) (by kernel_rfl) rfl (by kernel_rfl) fun w hM => ?_)
  refine wpList_nil ?_
  refine hK75 _ _ ?_
  refine wp_seq_k fun K76 hK76 => ?_
  refine wp_region_lit ?_
  refine wl (eL 94 3 0 (v := .agg #[.int .i64 100, .int .i64 131072]) hF hM (by kernel_rfl) rfl rfl (by kernel_rfl) (by kernel_rfl) fun a w hF hM => ?_)
  refine wl (eL 95 4 0 (v := .agg #[.int .i64 150, .int .i64 262144]) hF hM (by kernel_rfl) rfl rfl (by kernel_rfl) (by kernel_rfl) fun a w hF hM => ?_)
  refine wl (eL 96 5 0 (v := .agg #[.int .i64 0, .int .i64 104857600, .int .i64 157286400]) hF hM (by kernel_rfl) rfl rfl (by kernel_rfl) (by kernel_rfl) fun a w hF hM => ?_)
  refine sB 1 [(97, .pointer (some ⟨bb23, 0, none⟩))] hF (by kernel_rfl) fun a hF => ?_
  refine wl (eL 98 23 0 (v := .int .i64 0) hF hM (by kernel_rfl) rfl rfl (by kernel_rfl) (by kernel_rfl) fun a w hF hM => ?_)
  refine sB 1 [(99, .pointer (some ⟨bb23, 1, none⟩))] hF (by kernel_rfl) fun a hF => ?_
  refine wl (eL 100 23 1 (v := .int .i64 0) hF hM (by kernel_rfl) rfl rfl (by kernel_rfl) (by kernel_rfl) fun a w hF hM => ?_)
  refine wl (eM 101 (v := .tuple #[.int .i64 0, .agg #[.int .i64 0, .int .i64 0, .int .i64 0], .int .i64 2]) hF hM (by kernel_rfl) ((yld_call (f := 15) (args := #[.agg #[.int .i64 100, .int .i64 131072], .agg #[.int .i64 150, .int .i64 262144], .agg #[.int .i64 0, .int .i64 104857600, .int .i64 157286400], .int .i64 0, .int .i64 0]) hF (by kernel_rfl) (fun _ => by kernel_rfl) (fun w hM => meterMark_w 100 131072 150 262144 0 104857600 157286400 0 0 w)).to (by kernel_rfl)) fun a w hF hM => ?_)
  refine sB 4 [(93, .tuple #[.int .i64 0, .agg #[.int .i64 0, .int .i64 0, .int .i64 0], .int .i64 2]), (102, .int .i64 0), (103, .agg #[.int .i64 0, .int .i64 0, .int .i64 0]), (104, .int .i64 2)] hF (by kernel_rfl) fun a hF => ?_
  refine wl (eN 14 24 (t := 31) (fun b => .pointer (some ⟨b, 0, none⟩)) #[.int .i64 0, .int .i64 0, .int .i64 0] hF hM (by kernel_rfl) (fun _ => by kernel_rfl) fun bb24 a w hF hM => ?_)
  refine sB 1 [(13, .int .i64 0)] hF (by kernel_rfl) fun a hF => ?_
  refine wl (sStore (i := 24) (off := 0) (cs' := #[.int .i64 0, .int .i64 0, .int .i64 0]) hF hM (by kernel_rfl) rfl rfl (by kernel_rfl) (by kernel_rfl) rfl (by kernel_rfl) fun w hM => ?_)
  refine sB 1 [(15, .int .i64 2)] hF (by kernel_rfl) fun a hF => ?_
  refine wpList_nil ?_
  refine hK76 _ _ ?_
  refine wp_seq_k fun K77 hK77 => ?_
  refine wp_region_lit ?_
  refine sB 1 [(105, .int .i64 2)] hF (by kernel_rfl) fun a hF => ?_
  refine wl (eP 106 (v0 := .bool (!decide (2 = 2))) (v := .bool false) hF (by kernel_rfl) (fun _ => by kernel_rfl) (nT (by omega)) fun a hF => ?_)
  refine sB 1 [(107, .bool false)] hF (by kernel_rfl) fun a hF => ?_
  refine wl (eL 108 24 0 (v := .agg #[.int .i64 0, .int .i64 0, .int .i64 0]) hF hM (by kernel_rfl) rfl rfl (by kernel_rfl) (by kernel_rfl) fun a w hF hM => ?_)
  refine sB 1 [(109, .agg #[.int .i64 0, .int .i64 0, .int .i64 0])] hF (by kernel_rfl) fun a hF => ?_
  refine wl (eM 110 (v := .bool false) hF hM (by kernel_rfl) ((yld_neq (C := Mem _ _ _) [0, 0, 0] [0, 0, 0] hF rfl (by kernel_rfl) (by kernel_rfl) (by kernel_rfl) rfl (by kernel_rfl) (by kernel_rfl) (by kernel_rfl) rfl rfl).to (nT (by decide))) fun a w hF hM => ?_)
  refine sB 1 [(111, .bool false)] hF (by kernel_rfl) fun a hF => ?_
  refine wpList_nil ?_
  refine hK77 _ _ ?_
  refine cF hF (by kernel_rfl) (by kernel_rfl) ?_
  refine wp_skip ?_
  refine hK74 _ _ ?_
  refine wp_region_lit ?_
  refine wl (eP 112 (v0 := .int .i64 (IntKind.i64.wrap (2 + 1))) (v := .int .i64 3) hF (by kernel_rfl) (fun _ => by kernel_rfl) (vi (by decide)) fun a hF => ?_)
  refine sB 1 [(90, .int .i64 3)] hF (by kernel_rfl) fun a hF => ?_
  refine wpList_nil ?_
  refine hK71 _ _ ?_
  refine rounds_k fun K78 hK78 => ?_
  refine wp_seq_k fun K79 hK79 => ?_
  refine wp_region_lit ?_
  refine wl (eP 91 (v0 := .bool (decide (3 < 4))) (v := .bool true) hF (by kernel_rfl) (fun _ => by kernel_rfl) (bT (by omega)) fun a hF => ?_)
  refine wpList_nil ?_
  refine hK79 _ _ ?_
  refine wp_seq_k fun K80 hK80 => ?_
  refine cT hF (by kernel_rfl) (by kernel_rfl) ?_
  refine wp_skip ?_
  refine hK80 _ _ ?_
  refine wp_seq_k fun K81 hK81 => ?_
  refine wp_block ?_
  refine wp_seq_k fun K82 hK82 => ?_
  refine wp_region_lit ?_
  refine sB 1 [(92, .agg #[.int .i64 0, .int .i64 1048577])] hF (by kernel_rfl) fun a hF => ?_
  refine wl (eN 12 25 (t := 60) (fun b => .pointer (some ⟨b, 0, none⟩)) #[.int .i64 0, .int .i64 0] hF hM (by kernel_rfl) (fun _ => by kernel_rfl) fun bb25 a w hF hM => ?_)
  refine wl (sStore (i := 25) (off := 0) (cs' := #[.int .i64 0, .int .i64 1048577]) hF hM (by kernel_rfl) rfl rfl (by kernel_rfl) (by kernel_rfl) rfl (by kernel_rfl) fun w hM => ?_)
  refine wpList_nil ?_
  refine hK82 _ _ ?_
  refine wp_seq_k fun K83 hK83 => ?_
  refine wp_region_lit ?_
  refine wl (eL 94 3 0 (v := .agg #[.int .i64 100, .int .i64 131072]) hF hM (by kernel_rfl) rfl rfl (by kernel_rfl) (by kernel_rfl) fun a w hF hM => ?_)
  refine wl (eL 95 4 0 (v := .agg #[.int .i64 150, .int .i64 262144]) hF hM (by kernel_rfl) rfl rfl (by kernel_rfl) (by kernel_rfl) fun a w hF hM => ?_)
  refine wl (eL 96 5 0 (v := .agg #[.int .i64 0, .int .i64 104857600, .int .i64 157286400]) hF hM (by kernel_rfl) rfl rfl (by kernel_rfl) (by kernel_rfl) fun a w hF hM => ?_)
  refine sB 1 [(97, .pointer (some ⟨bb25, 0, none⟩))] hF (by kernel_rfl) fun a hF => ?_
  refine wl (eL 98 25 0 (v := .int .i64 0) hF hM (by kernel_rfl) rfl rfl (by kernel_rfl) (by kernel_rfl) fun a w hF hM => ?_)
  refine sB 1 [(99, .pointer (some ⟨bb25, 1, none⟩))] hF (by kernel_rfl) fun a hF => ?_
  refine wl (eL 100 25 1 (v := .int .i64 1048577) hF hM (by kernel_rfl) rfl rfl (by kernel_rfl) (by kernel_rfl) fun a w hF hM => ?_)
  refine wl (eM 101 (v := .tuple #[.int .i64 0, .agg #[.int .i64 0, .int .i64 0, .int .i64 0], .int .i64 2]) hF hM (by kernel_rfl) ((yld_call (f := 15) (args := #[.agg #[.int .i64 100, .int .i64 131072], .agg #[.int .i64 150, .int .i64 262144], .agg #[.int .i64 0, .int .i64 104857600, .int .i64 157286400], .int .i64 0, .int .i64 1048577]) hF (by kernel_rfl) (fun _ => by kernel_rfl) (fun w hM => meterMark_w 100 131072 150 262144 0 104857600 157286400 0 1048577 w)).to (by kernel_rfl)) fun a w hF hM => ?_)
  refine sB 4 [(93, .tuple #[.int .i64 0, .agg #[.int .i64 0, .int .i64 0, .int .i64 0], .int .i64 2]), (102, .int .i64 0), (103, .agg #[.int .i64 0, .int .i64 0, .int .i64 0]), (104, .int .i64 2)] hF (by kernel_rfl) fun a hF => ?_
  refine wl (eN 14 26 (t := 31) (fun b => .pointer (some ⟨b, 0, none⟩)) #[.int .i64 0, .int .i64 0, .int .i64 0] hF hM (by kernel_rfl) (fun _ => by kernel_rfl) fun bb26 a w hF hM => ?_)
  refine sB 1 [(13, .int .i64 0)] hF (by kernel_rfl) fun a hF => ?_
  refine wl (sStore (i := 26) (off := 0) (cs' := #[.int .i64 0, .int .i64 0, .int .i64 0]) hF hM (by kernel_rfl) rfl rfl (by kernel_rfl) (by kernel_rfl) rfl (by kernel_rfl) fun w hM => ?_)
  refine sB 1 [(15, .int .i64 2)] hF (by kernel_rfl) fun a hF => ?_
  refine wpList_nil ?_
  refine hK83 _ _ ?_
  refine wp_seq_k fun K84 hK84 => ?_
  refine wp_region_lit ?_
  refine sB 1 [(105, .int .i64 2)] hF (by kernel_rfl) fun a hF => ?_
  refine wl (eP 106 (v0 := .bool (!decide (2 = 2))) (v := .bool false) hF (by kernel_rfl) (fun _ => by kernel_rfl) (nT (by omega)) fun a hF => ?_)
  refine sB 1 [(107, .bool false)] hF (by kernel_rfl) fun a hF => ?_
  refine wl (eL 108 26 0 (v := .agg #[.int .i64 0, .int .i64 0, .int .i64 0]) hF hM (by kernel_rfl) rfl rfl (by kernel_rfl) (by kernel_rfl) fun a w hF hM => ?_)
  refine sB 1 [(109, .agg #[.int .i64 0, .int .i64 0, .int .i64 0])] hF (by kernel_rfl) fun a hF => ?_
  refine wl (eM 110 (v := .bool false) hF hM (by kernel_rfl) ((yld_neq (C := Mem _ _ _) [0, 0, 0] [0, 0, 0] hF rfl (by kernel_rfl) (by kernel_rfl) (by kernel_rfl) rfl (by kernel_rfl) (by kernel_rfl) (by kernel_rfl) rfl rfl).to (nT (by decide))) fun a w hF hM => ?_)
  refine sB 1 [(111, .bool false)] hF (by kernel_rfl) fun a hF => ?_
  refine wpList_nil ?_
  refine hK84 _ _ ?_
  refine cF hF (by kernel_rfl) (by kernel_rfl) ?_
  refine wp_skip ?_
  refine hK81 _ _ ?_
  refine wp_region_lit ?_
  refine wl (eP 112 (v0 := .int .i64 (IntKind.i64.wrap (3 + 1))) (v := .int .i64 4) hF (by kernel_rfl) (fun _ => by kernel_rfl) (vi (by decide)) fun a hF => ?_)
  refine sB 1 [(90, .int .i64 4)] hF (by kernel_rfl) fun a hF => ?_
  refine wpList_nil ?_
  refine hK78 _ _ ?_
  refine rounds_k fun K85 hK85 => ?_
  refine wp_seq_k fun K86 hK86 => ?_
  refine wp_region_lit ?_
  refine wl (eP 91 (v0 := .bool (decide (4 < 4))) (v := .bool false) hF (by kernel_rfl) (fun _ => by kernel_rfl) (bF (by omega)) fun a hF => ?_)
  refine wpList_nil ?_
  refine hK86 _ _ ?_
  refine wp_seq_k fun K87 hK87 => ?_
  refine cF hF (by kernel_rfl) (by kernel_rfl) ?_
  refine wp_exit ?_
  refine hK55 _ _ ?_
  refine wp_seq_k fun K88 hK88 => ?_
  refine wp_region_lit ?_
  refine wl (eL 114 6 0 (v := .agg #[.int .i64 1, .int .i64 0]) hF hM (by kernel_rfl) rfl rfl (by kernel_rfl) (by kernel_rfl) fun a w hF hM => ?_)
  refine wl (eL 115 4 0 (v := .agg #[.int .i64 150, .int .i64 262144]) hF hM (by kernel_rfl) rfl rfl (by kernel_rfl) (by kernel_rfl) fun a w hF hM => ?_)
  refine wl (eM 116 (v := .tuple #[.slice none 0 0, .int .i64 130]) hF hM (by kernel_rfl) ((yld_call (f := 19) (args := #[.agg #[.int .i64 1, .int .i64 0], .agg #[.int .i64 150, .int .i64 262144], .slice none 0 0]) hF (by kernel_rfl) (fun _ => by kernel_rfl) (fun w hM => meterRun_err 1 0 150 262144 none [] 0 w Ro.nil (by unfold runE; rw [if_neg (by decide)]; exact (by decide)))).to (by kernel_rfl)) fun a w hF hM => ?_)
  refine sB 5 [(113, .tuple #[.slice none 0 0, .int .i64 130]), (117, .slice none 0 0), (118, .int .i64 130), (16, .slice none 0 0), (17, .int .i64 130)] hF (by kernel_rfl) fun a hF => ?_
  refine wpList_nil ?_
  refine hK88 _ _ ?_
  refine wp_seq_k fun K89 hK89 => ?_
  refine wp_region_lit ?_
  refine wl (eL 120 4 0 (v := .agg #[.int .i64 150, .int .i64 262144]) hF hM (by kernel_rfl) rfl rfl (by kernel_rfl) (by kernel_rfl) fun a w hF hM => ?_)
  refine wl (eL 121 3 0 (v := .agg #[.int .i64 100, .int .i64 131072]) hF hM (by kernel_rfl) rfl rfl (by kernel_rfl) (by kernel_rfl) fun a w hF hM => ?_)
  refine sB 1 [(122, .agg #[.int .i64 0, .int .i64 0])] hF (by kernel_rfl) fun a hF => ?_
  refine wl (eN 123 27 (t := 33) (fun b => .slice (some ⟨b, 0, none⟩) 1 1) #[.int .i64 0, .int .i64 0] hF hM (by kernel_rfl) (fun _ => by kernel_rfl) fun bb27 a w hF hM => ?_)
  refine wl (eM 124 (v := .tuple #[.slice none 0 0, .int .i64 2]) hF hM (by kernel_rfl) ((yld_call (f := 19) (args := #[.agg #[.int .i64 150, .int .i64 262144], .agg #[.int .i64 100, .int .i64 131072], .slice (some ⟨bb27, 0, none⟩) 1 1]) hF (by kernel_rfl) (fun _ => by kernel_rfl) (fun w hM => meterRun_err 150 262144 100 131072 (some ⟨bb27, 0, none⟩) [(0, 0)] 1 w (hM.roRow (k := 27) rfl) (by unfold runE; rw [if_neg (by decide)]; exact (by decide)))).to (by kernel_rfl)) fun a w hF hM => ?_)
  refine sB 5 [(119, .tuple #[.slice none 0 0, .int .i64 2]), (125, .slice none 0 0), (126, .int .i64 2), (18, .slice none 0 0), (19, .int .i64 2)] hF (by kernel_rfl) fun a hF => ?_
  refine wpList_nil ?_
  refine hK89 _ _ ?_
  refine wp_seq_k fun K90 hK90 => ?_
  refine wp_region_lit ?_
  refine wl (eL 128 3 0 (v := .agg #[.int .i64 100, .int .i64 131072]) hF hM (by kernel_rfl) rfl rfl (by kernel_rfl) (by kernel_rfl) fun a w hF hM => ?_)
  refine wl (eL 129 4 0 (v := .agg #[.int .i64 150, .int .i64 262144]) hF hM (by kernel_rfl) rfl rfl (by kernel_rfl) (by kernel_rfl) fun a w hF hM => ?_)
  refine sB 1 [(130, .agg #[.int .i64 0, .int .i64 0])] hF (by kernel_rfl) fun a hF => ?_
  refine wl (eN 131 28 (t := 33) (fun b => .slice (some ⟨b, 0, none⟩) 1 1) #[.int .i64 0, .int .i64 0] hF hM (by kernel_rfl) (fun _ => by kernel_rfl) fun bb28 a w hF hM => ?_)
  refine wl (eM 132 (v := .tuple #[.slice none 0 0, .int .i64 131]) hF hM (by kernel_rfl) ((yld_call (f := 19) (args := #[.agg #[.int .i64 100, .int .i64 131072], .agg #[.int .i64 150, .int .i64 262144], .slice (some ⟨bb28, 0, none⟩) 1 1]) hF (by kernel_rfl) (fun _ => by kernel_rfl) (fun w hM => meterRun_err 100 131072 150 262144 (some ⟨bb28, 0, none⟩) [(0, 0)] 1 w (hM.roRow (k := 28) rfl) (by unfold runE; rw [if_pos (by decide)]; exact (by decide)))).to (by kernel_rfl)) fun a w hF hM => ?_)
  refine sB 5 [(127, .tuple #[.slice none 0 0, .int .i64 131]), (133, .slice none 0 0), (134, .int .i64 131), (20, .slice none 0 0), (21, .int .i64 131)] hF (by kernel_rfl) fun a hF => ?_
  refine wpList_nil ?_
  refine hK90 _ _ ?_
  refine wp_seq_k fun K91 hK91 => ?_
  refine wp_region_lit ?_
  refine wl (eL 136 3 0 (v := .agg #[.int .i64 100, .int .i64 131072]) hF hM (by kernel_rfl) rfl rfl (by kernel_rfl) (by kernel_rfl) fun a w hF hM => ?_)
  refine wl (eL 137 4 0 (v := .agg #[.int .i64 150, .int .i64 262144]) hF hM (by kernel_rfl) rfl rfl (by kernel_rfl) (by kernel_rfl) fun a w hF hM => ?_)
  refine sB 1 [(138, .agg #[.int .i64 0, .int .i64 0, .int .i64 0])] hF (by kernel_rfl) fun a hF => ?_
  refine wl (eM 139 (v := .tuple #[.int .i64 0, .agg #[.int .i64 1099511627776, .int .i64 0, .int .i64 52428800], .int .i64 0]) hF hM (by kernel_rfl) ((yld_call (f := 15) (args := #[.agg #[.int .i64 100, .int .i64 131072], .agg #[.int .i64 150, .int .i64 262144], .agg #[.int .i64 0, .int .i64 0, .int .i64 0], .int .i64 1099511627776, .int .i64 100]) hF (by kernel_rfl) (fun _ => by kernel_rfl) (fun w hM => meterMark_w 100 131072 150 262144 0 0 0 1099511627776 100 w)).to (by kernel_rfl)) fun a w hF hM => ?_)
  refine sB 4 [(135, .tuple #[.int .i64 0, .agg #[.int .i64 1099511627776, .int .i64 0, .int .i64 52428800], .int .i64 0]), (140, .int .i64 0), (141, .agg #[.int .i64 1099511627776, .int .i64 0, .int .i64 52428800]), (142, .int .i64 0)] hF (by kernel_rfl) fun a hF => ?_
  refine wl (eN 23 29 (t := 31) (fun b => .pointer (some ⟨b, 0, none⟩)) #[.int .i64 0, .int .i64 0, .int .i64 0] hF hM (by kernel_rfl) (fun _ => by kernel_rfl) fun bb29 a w hF hM => ?_)
  refine sB 1 [(22, .int .i64 0)] hF (by kernel_rfl) fun a hF => ?_
  refine wl (sStore (i := 29) (off := 0) (cs' := #[.int .i64 1099511627776, .int .i64 0, .int .i64 52428800]) hF hM (by kernel_rfl) rfl rfl (by kernel_rfl) (by kernel_rfl) rfl (by kernel_rfl) fun w hM => ?_)
  refine sB 1 [(24, .int .i64 0)] hF (by kernel_rfl) fun a hF => ?_
  refine wpList_nil ?_
  refine hK91 _ _ ?_
  refine wp_seq_k fun K92 hK92 => ?_
  refine wp_region_lit ?_
  refine sB 1 [(143, .bool true)] hF (by kernel_rfl) fun a hF => ?_
  refine wl (eM 144 (v := .bool true) hF hM (by kernel_rfl) (yld_call (f := 17) (args := #[]) hF (by kernel_rfl) (fun _ => by kernel_rfl) (fun w hM => works_w w)) fun a w hF hM => ?_)
  refine sB 3 [(145, .bool true), (146, .bool true), (147, .int .i64 130)] hF (by kernel_rfl) fun a hF => ?_
  refine wl (eP 148 (v0 := .bool (decide (130 = 130))) (v := .bool true) hF (by kernel_rfl) (fun _ => by kernel_rfl) (bT (by omega)) fun a hF => ?_)
  refine sB 3 [(149, .bool true), (150, .bool true), (151, .int .i64 2)] hF (by kernel_rfl) fun a hF => ?_
  refine wl (eP 152 (v0 := .bool (decide (2 = 2))) (v := .bool true) hF (by kernel_rfl) (fun _ => by kernel_rfl) (bT (by omega)) fun a hF => ?_)
  refine sB 3 [(153, .bool true), (154, .bool true), (155, .int .i64 131)] hF (by kernel_rfl) fun a hF => ?_
  refine wl (eP 156 (v0 := .bool (decide (131 = 131))) (v := .bool true) hF (by kernel_rfl) (fun _ => by kernel_rfl) (bT (by omega)) fun a hF => ?_)
  refine sB 3 [(157, .bool true), (158, .bool true), (159, .int .i64 0)] hF (by kernel_rfl) fun a hF => ?_
  refine wl (eP 160 (v0 := .bool (decide (0 = 0))) (v := .bool true) hF (by kernel_rfl) (fun _ => by kernel_rfl) (bT (by omega)) fun a hF => ?_)
  refine sB 3 [(161, .bool true), (162, .bool true), (163, .int .i64 0)] hF (by kernel_rfl) fun a hF => ?_
  refine wl (eP 164 (v0 := .bool (decide (0 = 0))) (v := .bool true) hF (by kernel_rfl) (fun _ => by kernel_rfl) (bT (by omega)) fun a hF => ?_)
  refine sB 2 [(165, .bool true), (166, .bool true)] hF (by kernel_rfl) fun a hF => ?_
  refine wl (eL 167 29 0 (v := .agg #[.int .i64 1099511627776, .int .i64 0, .int .i64 52428800]) hF hM (by kernel_rfl) rfl rfl (by kernel_rfl) (by kernel_rfl) fun a w hF hM => ?_)
  refine sB 1 [(168, .agg #[.int .i64 1099511627776, .int .i64 0, .int .i64 52428800])] hF (by kernel_rfl) fun a hF => ?_
  refine wl (eM 169 (v := .bool true) hF hM (by kernel_rfl) ((yld_eql (C := Mem _ _ _) [1099511627776, 0, 52428800] [1099511627776, 0, 52428800] hF rfl (by kernel_rfl) (by kernel_rfl) (by kernel_rfl) rfl (by kernel_rfl) (by kernel_rfl) (by kernel_rfl) rfl rfl).to (bT (by decide))) fun a w hF hM => ?_)
  refine sB 2 [(170, .bool true), (171, .bool true)] hF (by kernel_rfl) fun a hF => ?_
  refine wl (eL 172 3 0 (v := .agg #[.int .i64 100, .int .i64 131072]) hF hM (by kernel_rfl) rfl rfl (by kernel_rfl) (by kernel_rfl) fun a w hF hM => ?_)
  refine wl (eL 173 4 0 (v := .agg #[.int .i64 150, .int .i64 262144]) hF hM (by kernel_rfl) rfl rfl (by kernel_rfl) (by kernel_rfl) fun a w hF hM => ?_)
  refine wl (sC (f := 23) (args := #[.agg #[.int .i64 100, .int .i64 131072], .agg #[.int .i64 150, .int .i64 262144], .slice none 0 0, .slice none 0 0]) hF (by kernel_rfl) rfl (by decide) (by kernel_rfl) (fun _ => by kernel_rfl) ?_)
  refine enterK 25 Try.func23 rfl rfl rfl ?_
  intro a1 hF1 QR93 hR93 hNR93
  refine wp_seq_k fun K94 hK94 => ?_
  refine wp_region_lit ?_
  refine wl (eN 4 30 (t := 23) (fun b => .pointer (some ⟨b, 0, none⟩)) #[.int .i64 100, .int .i64 131072] hF1 hM (by kernel_rfl) (fun _ => by kernel_rfl) fun bb30 a1 w hF1 hM => ?_)
  refine wl (eN 5 31 (t := 23) (fun b => .pointer (some ⟨b, 0, none⟩)) #[.int .i64 150, .int .i64 262144] hF1 hM (by kernel_rfl) (fun _ => by kernel_rfl) fun bb31 a1 w hF1 hM => ?_)
  refine sB 1 [(8, .bool false)] hF1 (by kernel_rfl) fun a1 hF1 => ?_
  refine wpList_nil ?_
  refine hK94 _ _ ?_
  refine wp_seq_k fun K95 hK95 => ?_
  refine wp_region_lit ?_
  refine wl (eL 12 30 0 (v := .agg #[.int .i64 100, .int .i64 131072]) hF1 hM (by kernel_rfl) rfl rfl (by kernel_rfl) (by kernel_rfl) fun a1 w hF1 hM => ?_)
  refine wl (eL 13 31 0 (v := .agg #[.int .i64 150, .int .i64 262144]) hF1 hM (by kernel_rfl) rfl rfl (by kernel_rfl) (by kernel_rfl) fun a1 w hF1 hM => ?_)
  refine sB 1 [(14, .slice none 0 0)] hF1 (by kernel_rfl) fun a1 hF1 => ?_
  refine wl (sOwn 32 (f := 19) (args := #[.agg #[.int .i64 100, .int .i64 131072], .agg #[.int .i64 150, .int .i64 262144], .slice none 0 0]) (mk := fun v => .tuple #[v, .int .i64 0]) (e := 3) (size := 1) (m := 0) (xs := ((mrunF 100 131072 150 262144 []).map (Value.int .i64))) hF1 hM (by kernel_rfl) rfl (by decide) (by kernel_rfl) (fun _ => by kernel_rfl) (meterRun_ok 100 131072 150 262144 none [] 0 w Ro.nil (by decide) (by decide)) fun AA32 cc32 a1 w hF1 hM => ?_)
  refine sB 5 [(11, .tuple #[.slice AA32 0 cc32, .int .i64 0]), (16, .slice AA32 0 cc32), (17, .int .i64 0), (9, .slice AA32 0 cc32), (10, .int .i64 0)] hF1 (by kernel_rfl) fun a1 hF1 => ?_
  refine wpList_nil ?_
  refine hK95 _ _ ?_
  refine wp_seq_k fun K96 hK96 => ?_
  refine wp_region_lit ?_
  refine sB 1 [(18, .int .i64 0)] hF1 (by kernel_rfl) fun a1 hF1 => ?_
  refine wl (eP 19 (v0 := .bool (decide (0 = 0))) (v := .bool true) hF1 (by kernel_rfl) (fun _ => by kernel_rfl) (bT (by omega)) fun a1 hF1 => ?_)
  refine sB 3 [(20, .bool true), (21, .slice AA32 0 cc32), (22, .slice none 0 0)] hF1 (by kernel_rfl) fun a1 hF1 => ?_
  refine wl (eM 23 (v := .bool true) hF1 hM (by kernel_rfl) (yld_call (f := 21) (args := #[.slice AA32 0 cc32, .slice none 0 0]) hF1 (by kernel_rfl) (fun _ => by kernel_rfl) (fun w hM => same_yes AA32 (mrunF 100 131072 150 262144 []) cc32 none ([] : List Int) 0 w (ro_of_own (hM.ok 32 _ rfl)) Ro.nil (by decide) (by decide))) fun a1 w hF1 hM => ?_)
  refine sB 2 [(24, .bool true), (8, .bool true)] hF1 (by kernel_rfl) fun a1 hF1 => ?_
  refine wpList_nil ?_
  refine hK96 _ _ ?_
  refine wp_ret ?_
  refine hR93 _ _ ?_
  refine ret_of hF1 hM (.tmp rfl (.nil)) ⟨_, rfl, ?_⟩
  intro a hF
  refine sB 2 [(175, .bool true), (176, .bool true)] hF (by kernel_rfl) fun a hF => ?_
  refine wl (eL 177 3 0 (v := .agg #[.int .i64 100, .int .i64 131072]) hF hM (by kernel_rfl) rfl rfl (by kernel_rfl) (by kernel_rfl) fun a w hF hM => ?_)
  refine wl (eL 178 3 0 (v := .agg #[.int .i64 100, .int .i64 131072]) hF hM (by kernel_rfl) rfl rfl (by kernel_rfl) (by kernel_rfl) fun a w hF hM => ?_)
  refine sB 4 [(179, .agg #[.int .i64 7, .int .i64 101]), (180, .agg #[.int .i64 7, .int .i64 100]), (181, .agg #[.int .i64 807, .int .i64 100]), (182, .agg #[.int .i64 1606, .int .i64 100])] hF (by kernel_rfl) fun a hF => ?_
  refine wl (eN 183 33 (t := 33) (fun b => .slice (some ⟨b, 0, none⟩) 4 4) #[.int .i64 7, .int .i64 101, .int .i64 7, .int .i64 100, .int .i64 807, .int .i64 100, .int .i64 1606, .int .i64 100] hF hM (by kernel_rfl) (fun _ => by kernel_rfl) fun bb33 a w hF hM => ?_)
  refine wl (eN 184 34 (t := 3) (fun b => .slice (some ⟨b, 0, none⟩) 4 4) #[.int .i64 2, .int .i64 0, .int .i64 0, .int .i64 2] hF hM (by kernel_rfl) (fun _ => by kernel_rfl) fun bb34 a w hF hM => ?_)
  refine wl (sC (f := 23) (args := #[.agg #[.int .i64 100, .int .i64 131072], .agg #[.int .i64 100, .int .i64 131072], .slice (some ⟨bb33, 0, none⟩) 4 4, .slice (some ⟨bb34, 0, none⟩) 4 4]) hF (by kernel_rfl) rfl (by decide) (by kernel_rfl) (fun _ => by kernel_rfl) ?_)
  refine enterK 25 Try.func23 rfl rfl rfl ?_
  intro a1 hF1 QR97 hR97 hNR97
  refine wp_seq_k fun K98 hK98 => ?_
  refine wp_region_lit ?_
  refine wl (eN 4 35 (t := 23) (fun b => .pointer (some ⟨b, 0, none⟩)) #[.int .i64 100, .int .i64 131072] hF1 hM (by kernel_rfl) (fun _ => by kernel_rfl) fun bb35 a1 w hF1 hM => ?_)
  refine wl (eN 5 36 (t := 23) (fun b => .pointer (some ⟨b, 0, none⟩)) #[.int .i64 100, .int .i64 131072] hF1 hM (by kernel_rfl) (fun _ => by kernel_rfl) fun bb36 a1 w hF1 hM => ?_)
  refine sB 1 [(8, .bool false)] hF1 (by kernel_rfl) fun a1 hF1 => ?_
  refine wpList_nil ?_
  refine hK98 _ _ ?_
  refine wp_seq_k fun K99 hK99 => ?_
  refine wp_region_lit ?_
  refine wl (eL 12 35 0 (v := .agg #[.int .i64 100, .int .i64 131072]) hF1 hM (by kernel_rfl) rfl rfl (by kernel_rfl) (by kernel_rfl) fun a1 w hF1 hM => ?_)
  refine wl (eL 13 36 0 (v := .agg #[.int .i64 100, .int .i64 131072]) hF1 hM (by kernel_rfl) rfl rfl (by kernel_rfl) (by kernel_rfl) fun a1 w hF1 hM => ?_)
  refine sB 1 [(14, .slice (some ⟨bb33, 0, none⟩) 4 4)] hF1 (by kernel_rfl) fun a1 hF1 => ?_
  refine wl (sOwn 37 (f := 19) (args := #[.agg #[.int .i64 100, .int .i64 131072], .agg #[.int .i64 100, .int .i64 131072], .slice (some ⟨bb33, 0, none⟩) 4 4]) (mk := fun v => .tuple #[v, .int .i64 0]) (e := 3) (size := 1) (m := 4) (xs := ((mrunF 100 131072 100 131072 [(7, 101), (7, 100), (807, 100), (1606, 100)]).map (Value.int .i64))) hF1 hM (by kernel_rfl) rfl (by decide) (by kernel_rfl) (fun _ => by kernel_rfl) (meterRun_ok 100 131072 100 131072 (some ⟨bb33, 0, none⟩) [(7, 101), (7, 100), (807, 100), (1606, 100)] 4 w (hM.roRow (k := 33) rfl) (by decide) (by decide)) fun AA37 cc37 a1 w hF1 hM => ?_)
  refine sB 5 [(11, .tuple #[.slice AA37 4 cc37, .int .i64 0]), (16, .slice AA37 4 cc37), (17, .int .i64 0), (9, .slice AA37 4 cc37), (10, .int .i64 0)] hF1 (by kernel_rfl) fun a1 hF1 => ?_
  refine wpList_nil ?_
  refine hK99 _ _ ?_
  refine wp_seq_k fun K100 hK100 => ?_
  refine wp_region_lit ?_
  refine sB 1 [(18, .int .i64 0)] hF1 (by kernel_rfl) fun a1 hF1 => ?_
  refine wl (eP 19 (v0 := .bool (decide (0 = 0))) (v := .bool true) hF1 (by kernel_rfl) (fun _ => by kernel_rfl) (bT (by omega)) fun a1 hF1 => ?_)
  refine sB 3 [(20, .bool true), (21, .slice AA37 4 cc37), (22, .slice (some ⟨bb34, 0, none⟩) 4 4)] hF1 (by kernel_rfl) fun a1 hF1 => ?_
  refine wl (eM 23 (v := .bool true) hF1 hM (by kernel_rfl) (yld_call (f := 21) (args := #[.slice AA37 4 cc37, .slice (some ⟨bb34, 0, none⟩) 4 4]) hF1 (by kernel_rfl) (fun _ => by kernel_rfl) (fun w hM => same_yes AA37 (mrunF 100 131072 100 131072 [(7, 101), (7, 100), (807, 100), (1606, 100)]) cc37 (some ⟨bb34, 0, none⟩) [2, 0, 0, 2] 4 w (ro_of_own (hM.ok 37 _ rfl)) (hM.roRow (k := 34) rfl) (by decide) (by decide))) fun a1 w hF1 hM => ?_)
  refine sB 2 [(24, .bool true), (8, .bool true)] hF1 (by kernel_rfl) fun a1 hF1 => ?_
  refine wpList_nil ?_
  refine hK100 _ _ ?_
  refine wp_ret ?_
  refine hR97 _ _ ?_
  refine ret_of hF1 hM (.tmp rfl (.nil)) ⟨_, rfl, ?_⟩
  intro a hF
  refine sB 2 [(186, .bool true), (0, .bool true)] hF (by kernel_rfl) fun a hF => ?_
  refine wpList_nil ?_
  refine hK92 _ _ ?_
  refine wp_ret ?_
  refine hR0 _ _ ?_
  refine ret_of hF hM (.tmp rfl (.nil)) ?_
  exact ⟨rfl, hM.bel⟩

end Go.Proofs.Ytncllmponigkgaa
